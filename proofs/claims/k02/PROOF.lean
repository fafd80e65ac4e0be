import PyProof.Rows.All
import Wide.All
import OpenK.AllK
import Wide.FinOn
import HandS.ForMost
import HandS.ForExc
import HandS.TupAny
import HandS.Deep
import HandS.Zip
import HandS.Style
import HandS.Strs
import HandS.Conv
import KE.GoesMore
import KE.GoesEnum
import HandS.TupMul
import HandS.IsInst
import HandS.Flow
import KE.SortData
import HandS.CallSlots
import HandS.WordsExc
import HandS.ExcOwn
import HandS.Codes
import HandS.Ends
import KE.SortLaws
import KE.OsSorts
import PySem.Challenge.RW_lettermovers_k02_main_rows_led_one_to_on
set_option Elab.async false
set_option linter.all false
set_option maxRecDepth 100000
set_option maxHeartbeats 4000000
section T_Kt
set_option maxHeartbeats 4000000
/-! Kt: rules over the layer that the layer has not: enumerate of a tuple, t.index(x), xs[::-1] of a tuple, methods of a list or a tuple. -/
namespace Kt
open PySem PySem.Spec PyProof.Rows L2 RZ
/-! ### enumerate(tuple) -/
section
variable {prog : Program} {w : World} {A : Around} {E : Value → Shared → Prop} {s : Shared}
theorem meets_enum_new0 {v : Value} {o : Obj} {H : Heap → Prop} (B : Begins v o H) :
    Meets (Builtin.«enumerate.__new__» ⟨[.type "enumerate", v], []⟩) (fun _ R s => H s.heap ∧
      R (.ok (.ret (.ref (s.heap.push o).objs.size))) { s with heap := (s.heap.push o).push { cls := .type "enumerate", data := .fields #[.none, .bool false, .ref s.heap.objs.size, rawInt 0, .none, .none] } }) :=
  .of_wp fun prog w A R s h => by
    obtain ⟨hp, g, d, tk, os⟩ := s; obtain ⟨h1, h⟩ := h
    have hsub := sub_enumerate
    have q1 : ∀ {A' : Around} {E : Value → Shared → Prop} {Q : Value → Shared → Prop}, Q (.ref hp.objs.size) ⟨hp.push o, g, d, tk, os⟩ → wpAny (model prog w) A' (pyIter v) Q E ⟨hp, g, d, tk, os⟩ :=
      fun q => B.iter prog w _ _ ⟨hp, g, d, tk, os⟩ _ h1 q
    wp_walk using q1
    refine wpAny_stack_any fun st => wpAny_pure ?_
    split
    · rename_i c _ _ _ _ _
      cases (c == Value.type "enumerate")
      · wp_walk using q1
        exact ⟨_, rfl, h⟩
      · wp_walk using q1
        exact ⟨_, rfl, h⟩
    · wp_walk using q1
      exact ⟨_, rfl, h⟩
theorem call_enum0 {v : Value} {o : Obj} {H : Heap → Prop} {Q : Value → Shared → Prop} (B : Begins v o H) (h1 : H s.heap)
    (h : ∀ h', IsEnum h' (s.heap.objs.size + 1) s.heap.objs.size 0 .none → h'.get? s.heap.objs.size = some o → h'.objs.size = s.heap.objs.size + 2 →
      (∀ b o, s.heap.get? b = some o → h'.get? b = some o) → Q (.ref (s.heap.objs.size + 1)) { s with heap := h' }) :
    wpAny (model prog w) A (call (.type "enumerate") [v]) Q E s := by
  refine callType_new F.called_enumerate (by decide) (F.typeCall_enumerate_1 _) (F.newCall_enumerate_1 _) (fun obj => F.args_object_init_2 obj _) F.entry_enumerate_new
    (meets_enum_new0 B) ⟨h1, ?_⟩
  have hz : (s.heap.push o).objs.size = s.heap.objs.size + 1 := Heap.size_push ..
  show _ ∧ _
  rw [hz]
  have he : IsEnum ((s.heap.push o).push { cls := .type "enumerate", data := .fields #[.none, .bool false, .ref s.heap.objs.size, rawInt 0, .none, .none] }) (s.heap.objs.size + 1) s.heap.objs.size 0 .none := by
    have := Heap.get?_push_size (s.heap.push o) (o := { cls := .type "enumerate", data := .fields #[.none, .bool false, .ref s.heap.objs.size, rawInt 0, .none, .none] }) rfl
    rw [hz] at this; exact this
  refine ⟨⟨_, he, rfl⟩, h _ he (Heap.get?_push_of_some _ (Heap.get?_push_size _ B.free)) (by rw [Heap.size_push, hz]) fun b o x => Heap.get?_push_of_some _ (Heap.get?_push_of_some _ x)⟩
end
def IteT (K : PySem.W.Frag) (a : Addr) : It :=
  ⟨fun i H => ∃ (xs : List V) (x : V), SqT K H a xs ∧ xs[i]? = some x, fun i H v H' => ∃ T x, v = .ref T ∧ H T = none ∧ H' = upd H T (.tup [.int (i : Nat), x]) ∧ ∀ xs, SqT K H a xs → xs[i]? = some x, fun i H => ∃ xs : List V, SqT K H a xs ∧ xs.length ≤ i⟩
theorem turn_enumT {P : Program} {w : World} {K : PySem.W.Frag} {elts : List Expr} {kk : Nat} {tpos : Pos} (a e it : Addr) :
    Turn P w K (.Tuple elts kk tpos) (IteT K a) [e, it] e (fun i h => (∃ old, IsEnum h e it ((i : Nat) : Int) old) ∧ h.IsTupleIter it a i ∧ e ≠ it ∧ a ≠ it ∧ a ≠ e) where
  mem := by simp
  obj := fun i h st b hb => by
    obtain ⟨⟨old, he⟩, ⟨o, ho, hc, hd⟩, _⟩ := st
    have e' : b = e ∨ b = it := by simpa using hb
    rcases e' with z | z
    · rw [z]; exact ⟨_, he, fun v q => nomatch q⟩
    · rw [z]; exact ⟨o, ho, fun v q => by rw [hd] at q; cases q⟩
  keep := fun i h h' st k => let ⟨⟨old, he⟩, hi, hne⟩ := st; ⟨⟨old, k e (by simp) _ he⟩, hi.at fun o q => k it (by simp) o q, hne⟩
  item := by
    intro X hP hw hK hc i pins s σ H E I hf st hg
    subst hP hw hK
    obtain ⟨⟨old, he⟩, hit, hne, hai, hae⟩ := st
    obtain ⟨xs, x, hq, hx⟩ := hg
    obtain ⟨its, rv, p, hz⟩ := I.tuple hq
    obtain ⟨u, hu, ru⟩ := rv.get hx
    have hel : e < s.heap.objs.size := Heap.lt_size he
    have hil : it < s.heap.objs.size := by obtain ⟨_, q, _⟩ := hit; exact Heap.lt_size q
    have hlt : i < its.toArray.size := by
      have := (List.getElem?_eq_some_iff.mp hu).1
      simpa using this
    refine wpAny_pyNext_enum_itemD (Draws.tuple (A := X.A.in1) (I.ok.hd hc) it a hai its.toArray) he ⟨hit, p⟩ hlt hne (by simp [hne, Ne.symm hae]) fun u' h' tk hu' ho hit' hT hsz hk => ?_
    have eu : u' = u := by
      rw [show its.toArray[i]? = some u by simpa using hu] at hu'
      exact (Option.some.inj hu').symm
    subst eu
    refine ⟨_, rfl, wpAny_letOwnedTupleGo_enum (s := { s with heap := h', toks := tk + 1 }) ho fun h'' he' sb => ?_⟩
    have hT2 : h''.get? s.heap.objs.size = some { cls := .type "tuple", data := .seq #[.int i tk, u'] } := (sb.2 _ (Nat.ne_of_gt hel)).trans hT
    have new : ObjOk X.prog X.w (upd H s.heap.objs.size (.tup [.int (i : Nat), x])) h'' s.heap.objs.size (.tup [.int (i : Nat), x]) :=
      ⟨by show 2 ≤ sizeLine; decide, [.int i tk, u'], .cons ⟨_, rfl⟩ (.cons ru .nil), ⟨_, hT2, rfl, _, rfl⟩⟩
    have I1 : Inv X pins σ (upd H s.heap.objs.size (.tup [.int (i : Nat), x])) { s with heap := h'', toks := tk + 1 } :=
      I.turnedNew (ch := [e, it]) (fun b ob hb q => (sb.2 b (fun z => hb (by simp [z]))).trans (hk b ob (fun z => hb (by simp [z])) (fun z => hb (by simp [z])) q)) hf (Nat.le_refl _) new
    refine ⟨.ref s.heap.objs.size, _, I1, rfl, ⟨_, x, rfl, I.hok.fresh (Nat.le_refl _), rfl, fun ys hy => by rw [I.tuple_inj hy hq]; exact hx⟩, ⟨⟨u', ?_⟩, hit'.1.at fun o q => (sb.2 it (Ne.symm hne)).trans q, hne, hai, hae⟩, fun b hb => ?_⟩
    · have e1 : ((i + 1 : Nat) : Int) = (i : Int) + 1 := by omega
      rw [e1]; exact he'
    · have hb' : b < s.heap.objs.size := by
        have e' : b = e ∨ b = it := by simpa using hb
        rcases e' with z | z
        · rw [z]; exact hel
        · rw [z]; exact hil
      rw [upd_ne (Nat.ne_of_lt hb')]
      exact (hf b hb).1
  done := by
    intro X hP hw hK hc i pins s σ H E I hf st hg
    subst hP hw hK
    obtain ⟨⟨old, he⟩, hit, hne, hai, hae⟩ := st
    obtain ⟨xs, hq, hx⟩ := hg
    obtain ⟨its, rv, p, hz⟩ := I.tuple hq
    have hl := rv.length
    obtain ⟨f0, f1, f2, f3, f4, f5⟩ := hf it (by simp)
    have hT : s.TypeIs (.ref e) "enumerate" := ⟨_, he, rfl⟩
    unfold pyNext
    refine wpAny_bind (wpAny_attempt (wpAny_callSpecial?_slot (name := Str.ofString "__next__") hT F.slot_enumerate_next
      (wpAny_call_entry F.slot_enumerate_next hT F.entry_enumerate_next ?_ (F.args_enumerate_next_1 _))))
    show wpAny _ _ (field (.ref e) 2 >>= _) _ _ _
    refine wpAny_bind (wpAny_field he rfl (x := .ref it) rfl ?_)
    refine wpAny_bind (wpAny_nextOf_tuple_end (A := X.A.in1) (I.ok.hd hc) hit (items := its.toArray) p (by simp; omega) fun h' x he' hx' => ?_)
    obtain ⟨o, ho, hc'⟩ := hx'
    refine wpAny_bind (wpAny_isInstance (T := "StopIteration") (b := true) ⟨o, ho, hc'⟩ isSubtype_stop ?_)
    exact wpAny_pure ⟨rfl, I.turned (t' := s.toks) (fun b o hb q => he' b o hb q) f0 f1 f3 f4 f5⟩
  self := fun A i s Q E st h => let ⟨⟨_, he⟩, _⟩ := st; wpAny_pyIter_enum he h
def iEnumA (K : PySem.W.Frag) (ta : TA) : TI := fun σ H R => ta σ H fun vs H1 => ∃ a xs, vs = [.ref a] ∧ ((SqL K H1 a xs ∧ R (Ite K a) H1) ∨ (SqT K H1 a xs ∧ R (IteT K a) H1))
theorem pi_enumA {X : Cx} {e : Expr} {ta : TA} {p pos tpos : Pos} {elts : List Expr} {kk : Nat} (hg : Gl X "enumerate") (hm : X.mg "enumerate" = none) (ha : PA X [e] ta) (hs : starEach [e] X.env = [(false, eval e X.env)] := by rfl) :
    PI X (.Tuple elts kk tpos) (.Call (.Name "enumerate" p) [e] [] pos) (iEnumA X.K ta) := by
  refine ⟨fun pins s σ H R I h => ?_⟩
  refine Call_ (ld_blt I hg hm boot_enumerate (PyProof.Rows.callWith_type1 (thn (ha.run pos pins s σ H _ I h) fun us s1 ⟨vs, H1, I1, r1, q1⟩ => ?_) hs rfl))
  obtain ⟨a, xs, ex, q⟩ := q1
  subst ex
  cases r1 with
  | cons r rr =>
    cases rr
    cases r
    have fresh : ∀ b ∈ [s1.heap.objs.size + 1, s1.heap.objs.size], FpOk X pins H1 b := fun b hb => by
      have e' : b = s1.heap.objs.size + 1 ∨ b = s1.heap.objs.size := by simpa using hb
      have hle : s1.heap.objs.size ≤ b := by
        rcases e' with z | z
        · rw [z]; exact Nat.le_add_right _ _
        · rw [z]; exact Nat.le_refl _
      exact I1.fpOk hle (I1.hok.fresh hle)
    rcases q with ⟨hq, q⟩ | ⟨hq, q⟩
    · obtain ⟨its, rv, p', hz⟩ := I1.list hq
      refine call_enumerate_list p'.isList fun h' he hit hsz hk => wpAny_pyIter_enum he ?_
      have I2 : Inv X pins σ H1 { s1 with heap := h' } := I1.kept (t' := s1.toks) hk
      exact ⟨s1.heap.objs.size + 1, [s1.heap.objs.size + 1, s1.heap.objs.size], _, _, H1, rfl, I2, turn_enum a (s1.heap.objs.size + 1) s1.heap.objs.size, ⟨⟨.none, he⟩, hit, Nat.succ_ne_self _⟩, fresh, q⟩
    · obtain ⟨its, rv, p', hz⟩ := I1.tuple hq
      obtain ⟨o1, ho1, _⟩ := id p'
      have hlt : a < s1.heap.objs.size := Heap.lt_size ho1
      refine call_enum0 (begins_tuple a its.toArray) p' fun h' he hit hsz hk => wpAny_pyIter_enum he ?_
      have I2 : Inv X pins σ H1 { s1 with heap := h' } := I1.kept (t' := s1.toks) hk
      exact ⟨s1.heap.objs.size + 1, [s1.heap.objs.size + 1, s1.heap.objs.size], _, _, H1, rfl, I2, turn_enumT a (s1.heap.objs.size + 1) s1.heap.objs.size, ⟨⟨.none, he⟩, ⟨_, hit, rfl, rfl⟩, Nat.succ_ne_self _, Nat.ne_of_lt hlt, Nat.ne_of_lt (Nat.lt_succ_of_lt hlt)⟩, fresh, q⟩
/-! ### a method of a value whose type is told when it is there -/
section
variable {X : Cx} {o e : Expr} {es : List Expr} {name : Str} {to : TE} {t : TA} {apos cpos : Pos}
/-- .. of a builtin's type, a tuple of ours too -/
def tyN (K : PySem.W.Frag) (T : String) (x : V) (H : Hp) : Prop := tyV K T x H ∨ (T = "tuple" ∧ ∃ (a : Addr) (vs : List V) (o : Obj), x = .ref a ∧ H a = some (.frz o (.tup vs)) ∧ o.dict = none)
theorem tyN_is {X : Cx} {pins : List (Addr × Obj)} {σ : L2.St} {H : Hp} {s : Shared} {T : String} {x : V} {v : Value} (I : Inv X pins σ H s) (r : RelV x v) (ty : tyN X.K T x H) :
    s.TypeIs v T ∧ ∀ a, v = .ref a → ∃ ob, s.heap.get? a = some ob ∧ ob.dict = none := by
  rcases ty with ty | ⟨rfl, a, vs, o, rfl, e, ed⟩
  · exact tyV_is I r ty
  · cases r
    obtain ⟨q1, _, its, _, o', q2, q3, q4⟩ := I.hok a _ e
    rw [q1] at q2
    cases q2
    exact ⟨⟨o, q1, q3⟩, fun b eb => by cases eb; exact ⟨o, q1, ed⟩⟩
structure BmOk (X : Cx) (name : Str) (T id : String) (r : V → List V → Hp → VK → Prop) : Prop where
  pa : PlainAttrs T
  slot : Slot T name id
  hty : typeOf (.builtin id) = pure (.type "method_descriptor")
  hm : MtR X id r
def tBMx (K : PySem.W.Frag) (M : String → String → Prop) (r : String → V → List V → Hp → VK → Prop) (to : TE) (t : TA) : TE := fun σ H Q => to σ H fun x H1 => ∃ T id, M T id ∧ tyN K T x H1 ∧ t σ H1 fun xs H2 => r id x xs H2 Q
theorem pe_bmx {M : String → String → Prop} {r : String → V → List V → Hp → VK → Prop} (hM : ∀ T id, M T id → BmOk X name T id (r id)) (ho : PE X o to) (ha : PA X (e :: es) t)
    (hbase : attributeBase o name X.env (eval o X.env) = eval o X.env := by rfl)
    (hfew : ((backTo cpos (starEach (e :: es) X.env)).all (fun x => !x.1) && (backToKw cpos (keywordEach [] X.env)).all (fun x => x.1.isSome)
      && decide ((e :: es).length + ([] : List Keyword).length + (if ([] : List Keyword).isEmpty then 0 else 1) < 30)) = true := by rfl)
    (hline : (apos.endLine == cpos.line) = true := by rfl) (hs : starEach (e :: es) X.env = (false, eval e X.env) :: starEach es X.env := by rfl) (hplain : (backTo cpos (starEach es X.env)).any (·.1) = false := by rfl) :
    PE X (.Call (.Attribute o name apos) (e :: es) [] cpos) (tBMx X.K M r to t) := by
  refine ⟨fun pins s σ H Q I h => ?_⟩
  refine wpAny_Call_method_late hbase hfew hline rfl (thn (ho.run pins s σ H _ I h) fun v s1 ⟨x, H1, I1, r1, T, id, m, ty, q1⟩ => ?_)
  obtain ⟨pa, slot, hty, hm⟩ := hM T id m
  obtain ⟨h1, h2⟩ := tyN_is I1 r1 ty
  refine ⟨T, id, pa, slot, hty, h1, h2, ?_⟩
  have hA := ha.run cpos pins s1 σ H1 _ I1 q1
  rw [hs] at hA ⊢
  refine Calls.callWith_builtin (by show (false || (backTo cpos (starEach es X.env)).any (·.1)) = false; rw [hplain] <;> rfl) (Calls.evalArgs_plain ?_)
  exact thn hA fun us s2 ⟨vs, H2, I2, r2, q2⟩ => hm pins s2 σ H2 x vs v us Q I2 r1 r2 q2
end
/-! ### t.index(x), t a tuple of data -/
def rIndexT (K : PySem.W.Frag) : V → List V → Hp → VK → Prop := fun x xs H Q => ∃ (a : Addr) (y : V) (d : PyData) (ds : List PyData) (j : Nat) (z : PyData), x = V.ref a ∧ xs = [y] ∧ Dp K H (V.ref a) (.tuple ds) ∧ Dp K H y d ∧
  SeqAt.shaped (.tuple ds) = true ∧ SeqAt.shaped d = true ∧ ds[j]? = some z ∧ PyData.eqv z d = true ∧ (∀ (m : Nat) (z' : PyData), m < j → ds[m]? = some z' → PyData.eqv z' d = false) ∧ Q (.int (j : Nat)) H
theorem shaped_tl {ds : List PyData} (h : SeqAt.shaped (.tuple ds) = true) : SeqAt.shaped (.list ds) = true := by
  unfold SeqAt.shaped at h ⊢
  rw [← h]
  unfold PyData.canLay0 PyData.depth
  rfl
theorem mt_indexT {X : Cx} (hu : X.A.units + 65 < cLine) : MtR X "tuple.index" (rIndexT X.K) := by
  intro pins s σ H x xs v us Q I rx rxs h
  obtain ⟨a, y, d, ds, j, z, rfl, rfl, hl, hy, sl, sd, hz, hzj, hno, q⟩ := h
  cases rx
  cases rxs with
  | cons ry rt =>
    rename_i uy ut
    cases rt
    obtain ⟨bs, r1⟩ := Dp.reads I d y uy hy ry
    have sl := shaped_tl sl
    have hxs : PyData.canLayAll0 ds = true := by
      have := SeqAt.canLay_of_shaped sl
      unfold PyData.canLay0 at this
      exact this
    have hroom : X.A.units + 1 + min (PyData.depthAll ds) d.depth < cLine := room_in_shaped sd hu
    cases hl with
    | tup hs ha =>
      obtain ⟨its, rv, pl, hlen⟩ := I.tuple hs
      obtain ⟨⟨cls, dd, dt, sls⟩, ho, hc, n, hdt⟩ := pl
      simp only at hc hdt
      subst hc hdt
      obtain ⟨as, h4⟩ := Dp.readsAll I ds _ its ha rv
      have hn : its.length = ds.length := SeqAt.ReadsAll.length ds its as h4
      have hmap : its.map (SeqAt.readOf s.heap) = ds := SeqAt.readsAll_map ds its as hxs h4
      obtain ⟨hjd, _⟩ := List.getElem?_eq_some_iff.mp hz
      have hjl : j < its.length := by omega
      have hj : j < its.toArray.size := by simpa using hjl
      have at_ : ∀ (m : Nat) (hm : m < its.toArray.size) (z' : PyData), ds[m]? = some z' → SeqAt.readOf s.heap its.toArray[m] = z' := by
        intro m hm z' hz'
        have hml : m < its.length := by simpa using hm
        rw [← hmap, List.getElem?_map, List.getElem?_eq_getElem hml] at hz'
        have e1 : SeqAt.readOf s.heap its[m] = z' := Option.some.inj (show some (SeqAt.readOf s.heap its[m]) = some z' from hz')
        simpa using e1
      refine call_meets PySem.F.slot_tuple_index ⟨_, ho, rfl⟩ PySem.F.entry_tuple_index (PySem.F.args_tuple_index_2 _ _)
        (TI.tuple_indexAt a its.toArray n dd sls uy (fun u => PyData.eqv (SeqAt.readOf s.heap u) d) j hj ?_ ?_) ⟨ho, SeqAt.items_eqAt (vs := its.toArray) (show ReadsAll s.heap its.toArray.toList ds as from h4) r1 hxs (SeqAt.canLay_of_shaped sd) hroom, ?_⟩
      · show PyData.eqv (SeqAt.readOf s.heap its.toArray[j]) d = true
        rw [at_ j hj z hz]
        exact hzj
      · intro m hm hmj
        have hz' : ds[m]? = some ds[m] := List.getElem?_eq_getElem (by omega)
        show PyData.eqv (SeqAt.readOf s.heap its.toArray[m]) d = false
        rw [at_ m hm _ hz']
        exact hno m _ hmj hz'
      · exact ⟨.int (j : Nat), H, I.tok _, ⟨_, rfl⟩, q⟩

/-! ### tuples whose object is known to have no dict of its own: HO.frz tells the object -/
def TpN (Z : Hp) (a : Addr) (vs : List V) : Prop := ∃ o : Obj, Z a = some (.frz o (.tup vs)) ∧ o.dict = none
theorem TpN.sq {K : PySem.W.Frag} {Z : Hp} {a : Addr} {vs : List V} (h : TpN Z a vs) : SqT K Z a vs := let ⟨o, e, _⟩ := h; .inl (.inr ⟨o, e⟩)
/-- what is asked of a new tuple's holder -/
def NewT (H : Hp) (vs : List V) (Q : VK) : Prop := ∀ (p : Addr) (o : Obj), H p = none → o.dict = none → Q (.ref p) (upd H p (.frz o (.tup vs)))
section
variable {X : Cx} {pins : List (Addr × Obj)} {σ : L2.St} {H : Hp} {s : Shared} {Q : VK}
theorem newT_at {h : Heap} {tk : Nat} {vs : List V} {us : List Value} (I : Inv X pins σ H { s with heap := h, toks := tk }) (r : Vals vs us) (hz : vs.length ≤ sizeLine) (q : NewT H vs Q) :
    EP X pins σ Q (.ref h.objs.size) { s with heap := h.push { cls := .type "tuple", data := .seq us.toArray }, toks := tk } := by
  have fresh := I.hok.fresh (Nat.le_refl _)
  have at_ : (h.push { cls := .type "tuple", data := .seq us.toArray }).get? h.objs.size = some { cls := .type "tuple", data := .seq us.toArray } := Heap.get?_push_size _ rfl
  refine ⟨.ref h.objs.size, _, I.laid (t' := tk) (fun b ob e => Heap.get?_push_of_some _ e) (Nat.le_refl _) ?_, rfl, q _ { cls := .type "tuple", data := .seq us.toArray } fresh rfl⟩
  exact ⟨at_, hz, us, r, ⟨_, at_, rfl, _, rfl⟩⟩
theorem newT_now {vs : List V} {us : List Value} (I : Inv X pins σ H s) (r : Vals vs us) (hz : vs.length ≤ sizeLine) (q : NewT H vs Q) :
    EP X pins σ Q (.ref s.heap.objs.size) { s with heap := s.heap.push { cls := .type "tuple", data := .seq us.toArray } } := newT_at (s := s) (h := s.heap) (tk := s.toks) I r hz q
end
section
variable {X : Cx}
/-- (e, ..) -/
def tTupN (t : TA) : TE := fun σ H Q => t σ H fun xs H1 => xs.length ≤ sizeLine ∧ NewT H1 xs Q
theorem pe_tupN {es : List Expr} {t : TA} {pos : Pos} {x1} (ht : PA X es t) : PE X (.Tuple es x1 pos) (tTupN t) := by
  refine ⟨fun pins s σ H Q I hq => wpAny_Tuple_spliced (thn (ht.run pos pins s σ H _ I hq) fun us s1 ⟨xs, H1, I1, r, z, q⟩ => ⟨?_, newT_now I1 r z q⟩)⟩
  rw [← r.length]
  exact z
/-- t + u -/
def rCatN (K : PySem.W.Frag) : R2 := fun x y H Q => ∃ a b xs ys, x = .ref a ∧ y = .ref b ∧ SqT K H a xs ∧ SqT K H b ys ∧ (xs ++ ys).length ≤ sizeLine ∧ (xs = [] → Q (.ref b) H) ∧ (ys = [] → Q (.ref a) H) ∧ NewT H (xs ++ ys) Q
theorem op_catN : OpR X (binaryOp .Add) (rCatN X.K) := by
  intro pins s σ H x y v u Q I rx ry ⟨a, b, xs, ys, ex, ey, ha, hb, hz, q0, q1, q2⟩
  subst ex ey
  cases rx
  cases ry
  obtain ⟨its, r1, p1, _⟩ := I.tuple ha
  obtain ⟨its2, r2, p2, _⟩ := I.tuple hb
  by_cases hx : xs = []
  · have e := r1.nil_iff.mpr hx
    subst e
    exact cat_tup0 p1 p2 ⟨.ref b, H, I, rfl, q0 hx⟩
  · have hl : its.length + its2.length ≤ sizeLine := by rw [← r1.length, ← r2.length, ← List.length_append]; exact hz
    exact HT.cat_tup p1 p2 (fun z => hx (r1.nil_iff.mp z)) (fun z => ⟨.ref a, H, I, rfl, q1 (r2.nil_iff.mp z)⟩) (fun _ => newT_now I (r1.append r2) hz q2) hl
/-- t[lo:hi] -/
def rSlN (K : PySem.W.Frag) : V → Option Int → Option Int → Hp → VK → Prop := fun x lo hi H Q => ∃ a xs, x = .ref a ∧ SqT K H a xs ∧
  (HT.sIx xs.length 0 lo = 0 ∧ HT.sIx xs.length xs.length hi = xs.length → Q (.ref a) H) ∧ NewT H (cutV xs lo hi) Q
theorem sl_tupN : SlR X (rSlN X.K) := by
  intro pins s σ H x v vl vu lo hi sl Q I rx hs pl pu ⟨a, xs, ex, hx, q1, q2⟩
  subst ex
  cases rx
  obtain ⟨its, r, ht, hz⟩ := I.tuple hx
  have hlen : its.toArray.size = xs.length := by rw [List.size_toArray]; exact r.length.symm
  refine ⟨"tuple", _, PyProof.Rows.slot_tuple_getitem.lookup, ht.typeIs, ?_⟩
  by_cases hw : HT.sIx xs.length 0 lo = 0 ∧ HT.sIx xs.length xs.length hi = xs.length
  · exact getItem_tuple_whole ht hs pl pu (hlen ▸ hw) ⟨.ref a, H, I, rfl, q1 hw⟩
  · refine HT.getItem_tuple_cut ht hs pl pu (hlen ▸ hw) ?_ (hlen ▸ hz)
    rw [hlen]
    exact newT_now I ((r.drop _).take _) (Nat.le_trans (cutV_length xs lo hi) hz) q2
/-- tuple(xs), tuple(t) -/
theorem call_tupleN : CallR X (.type "tuple") (fun xs H Q => ∃ p ys, xs = [.ref p] ∧ ((SqL X.K H p ys ∧ NewT H ys Q) ∨ (SqT X.K H p ys ∧ Q (.ref p) H))) := by
  intro pins s σ H xs us Q I r ⟨p, ys, ex, h⟩
  subst ex
  obtain ⟨u, rfl, rx⟩ := vals1 r
  cases rx
  rcases h with ⟨hq, q⟩ | ⟨hq, q⟩
  · obtain ⟨its, r', pl, hz⟩ := I.list hq
    refine call_tuple_list pl.isList (fun h' kp => ?_) (by rw [List.size_toArray, ← r'.length]; exact hz)
    exact newT_at (s := s) (h := h') (tk := s.toks) (I.kept (t' := s.toks) kp) r' hz q
  · obtain ⟨its, r', pl, hz⟩ := I.tuple hq
    exact call_tuple_same pl ⟨.ref p, H, I, rfl, q⟩
/-- tuple(range(..)) -/
def tTupRgN (te : L2.St → Hp → (Int → Int → Hp → Prop) → Prop) : TE := fun σ H Q => te σ H fun a b H1 => RgOk a b ∧ NewT H1 (rgV a b) Q
theorem pe_tupRgN {e : Expr} {te : L2.St → Hp → (Int → Int → Hp → Prop) → Prop} {p pos : Pos} (hc : X.calm = true) (hg : Gl X "tuple") (hm : X.mg "tuple" = none) (he : PRg X e te) (na : starEach [e] X.env = (false, eval e X.env) :: starEach [] X.env) : PE X (.Call (.Name "tuple" p) [e] [] pos) (tTupRgN te) := by
  refine ⟨fun pins s σ H Q I h => Call_ (ld_blt I hg hm boot_tuple (PyProof.Rows.callWith_type1 (args_cons (thn (he pins s σ H _ I h) fun x s1 ⟨r, a, b, t, u, v, H1, ex, hr, I1, ok, q⟩ => args_nil ?_) na) na))⟩
  subst ex
  obtain ⟨b1, b2, b3, b4, b5⟩ := ok
  refine call_tuple_range (n := (b - a).toNat) (I1.ok.hd hc) hr (small_one b1 b2 b3 b4) (rangeSize_nat a b) b5 fun h' tk acc hk hi => ?_
  have q' := newT_at (s := s1) (h := h') (tk := tk) (I1.kept hk) (vals_rg hi) (by rw [rgV_length, sizeLine_eq]; omega) q
  rw [Array.toArray_toList] at q'
  exact q'
/-- t * k -/
def rRepN (K : PySem.W.Frag) : R2 := fun x y H Q => ∃ l k xs, x = .ref l ∧ y = .int k ∧ SqT K H l xs ∧ -(2 ^ 63) ≤ k ∧ k ≤ 1000 ∧ xs.length ≤ 1000 ∧ (xs = [] ∨ k = 1 → Q (.ref l) H) ∧ NewT H (List.replicate k.toNat xs).flatten Q
end
/-! ### xs[::-1] of a list, of a tuple -/
theorem adjust_rev (n : Nat) : Builtin.Slice.sliceAdjust none none (-1) (n : Int) = ((n : Int) - 1, -1) := rfl
theorem places_rev (n : Nat) : Builtin.Slice.slicePlaces ((n : Int) - 1) (-1) (-1) = n := by
  unfold Builtin.Slice.slicePlaces
  have h1 : ¬ ((-1 : Int) > 0) := by omega
  simp only [h1, if_false]
  split
  · have : ((n : Int) - 1 - -1 - 1) / (- -1) + 1 = n := by
      rw [show (- -1 : Int) = 1 by rfl, Int.ediv_one]; omega
    rw [this]; rfl
  · omega
theorem fmc {α β : Type} {f g : α → Option β} : ∀ {l : List α}, (∀ a ∈ l, f a = g a) → l.filterMap f = l.filterMap g
  | [], _ => rfl
  | a :: l, h => by rw [List.filterMap_cons, List.filterMap_cons, h a List.mem_cons_self, fmc fun b hb => h b (List.mem_cons_of_mem _ hb)]
theorem pick_rev (xs : List Value) : (List.range xs.length).filterMap (fun (k : Nat) => xs.toArray[((xs.length : Int) - 1 + (k : Int) * (-1)).toNat]?) = xs.reverse := by
  have e : (List.range xs.length).filterMap (fun (k : Nat) => xs.toArray[((xs.length : Int) - 1 + (k : Int) * (-1)).toNat]?) = (List.range xs.length).filterMap (fun (k : Nat) => xs.reverse[k]?) := by
    refine fmc fun k hk => ?_
    have hk := List.mem_range.mp hk
    rw [List.getElem?_reverse hk, List.getElem?_toArray, show ((xs.length : Int) - 1 + (k : Int) * (-1)).toNat = xs.length - 1 - k by omega]
  rw [e]
  have : ∀ l : List Value, (List.range l.length).filterMap (fun (k : Nat) => l[k]?) = l := by
    intro l
    induction l with
    | nil => rfl
    | cons a l ih =>
      rw [List.length_cons, List.range_succ_eq_map, List.filterMap_cons]
      simp only [List.getElem?_cons_zero, List.filterMap_map]
      congr 1
  have h := this xs.reverse
  rw [List.length_reverse] at h
  exact h
section
variable {prog : Program} {w : World} {A : Around} {E : Value → Shared → Prop} {s : Shared}
theorem getItem_tuple_rev {t sl : Addr} {its : List Value} {vs : Value} {Q : Value → Shared → Prop} (ht : IsTup s.heap t its.toArray) (hs : s.heap.IsSliceOf sl .none .none vs) (ps : IsPart vs (some (-1)))
    (h : Q (.ref s.heap.objs.size) { s with heap := s.heap.push { cls := .type "tuple", data := .seq its.reverse.toArray } })
    (hsz : its.length ≤ sizeLine) : wpAny (model prog w) A (getItem (.ref t) (.ref sl)) Q E s := by
  have htake : sizeOk (.seq its.reverse.toArray) := by
    show its.reverse.toArray.size ≤ sizeLine
    simpa using hsz
  obtain ⟨os, hos, hcs, hds⟩ := id hs
  have hTs : s.TypeIs (.ref sl) "slice" := ⟨os, hos, hcs⟩
  unfold getItem
  try with_reducible refine wpAny_holding ?_
  first | refine wpAny_bind (wpAny_pure ?_) | skip
  refine wpAny_bind (wpAny_sequenceKey ht.typeIs (by decide) ?_)
  refine wpAny_bind (wpAny_callSpecial?_slot (name := Str.ofString "__getitem__") ht.typeIs PyProof.Rows.slot_tuple_getitem
    (wpAny_call_entry PyProof.Rows.slot_tuple_getitem ht.typeIs entry_tuple_getitem ?_ (args_tuple_getitem _ _)))
  show wpAny _ _ (Builtin.Tuple.tupleItemsOf (.ref t) >>= _) _ _ s
  refine wpAny_bind (PyProof.Rows.tupleItemsOf_ ht ?_)
  refine wpAny_bind (wpAny_typeOf hTs ?_)
  rw [if_pos (by decide)]
  have key : ∀ {Q' : Int × Int × Nat → Shared → Prop} {E' : Value → Shared → Prop} {A' : Around}, Q' ((its.length : Int) - 1, -1, its.length) s → wpAny (model prog w) A' (Builtin.Slice.sliceApplied (.ref sl) (pure (its.toArray.size : Int))) Q' E' s := by
    intro Q' E' A' q
    unfold Builtin.Slice.sliceApplied Builtin.Slice.sliceFields
    refine wpAny_bind (wpAny_bind (wpAny_field hos hds (x := .none) rfl (wpAny_bind (wpAny_field hos hds (x := .none) rfl (wpAny_bind (wpAny_field hos hds (x := vs) rfl (wpAny_pure ?_)))))))
    refine wpAny_bind (HT.slicePart_ ps ?_)
    show wpAny _ _ (if ((-1 : Int) == 0) = true then _ else _) _ _ s
    rw [if_neg (by decide)]
    refine wpAny_bind (HT.slicePart_ .none (wpAny_bind (HT.slicePart_ .none (wpAny_bind (wpAny_pure ?_)))))
    show wpAny _ _ (pure ((its.toArray.size : Int) - 1, (-1 : Int), Builtin.Slice.slicePlaces ((its.toArray.size : Int) - 1) (-1) (-1))) _ _ s
    rw [places_rev, List.size_toArray]
    exact wpAny_pure q
  refine wpAny_bind (key ?_)
  have hno : ¬ ((((its.length : Int) - 1 == 0 && (-1 : Int) == 1) && its.length == its.toArray.size) = true) := by
    have e : ((-1 : Int) == 1) = false := by decide
    rw [e, Bool.and_false, Bool.false_and]
    exact Bool.false_ne_true
  show wpAny _ _ (if (((its.length : Int) - 1 == 0 && (-1 : Int) == 1) && its.length == its.toArray.size) = true then _ else _) _ _ s
  rw [if_neg hno, pick_rev]
  first
    | exact wpAny_bind (m := Builtin.Tuple.tupleExact _) (wpAny_newObj_type (wpAny_pure ⟨_, rfl, wpAny_pure h⟩) htake)
    | exact wpAny_bind (m := Builtin.Tuple.tupleExact _) (wpAny_newObj_type (wpAny_bind (wpAny_pure (wpAny_pure ⟨_, rfl, wpAny_pure h⟩))) htake)
    | exact wpAny_bind (wpAny_bind (m := Builtin.Tuple.tupleExact _) (wpAny_newObj_type (wpAny_pure (wpAny_pure ⟨_, rfl, wpAny_pure h⟩)) htake))
    | exact wpAny_bind (wpAny_bind (m := Builtin.Tuple.tupleExact _) (wpAny_newObj_type (wpAny_pure ⟨_, rfl, wpAny_pure h⟩) htake))
end
def tRevA (K : PySem.W.Frag) (te : TE) : TE := fun σ H Q => te σ H fun x H1 => ∃ a xs, x = .ref a ∧ ((SqL K H1 a xs ∧ ∀ p, H1 p = none → Q (.ref p) (upd H1 p (.lst xs.reverse))) ∨ (SqT K H1 a xs ∧ NewT H1 xs.reverse Q))
theorem pe_revA {X : Cx} {e : Expr} {te : TE} {k : Nat} {p1 p2 p3 pos : Pos} (he : PE X e te) : PE X (.Subscript e (.Slice none none (some (.UnaryOp .USub (.Constant (.int 1) k p1) p2)) p3) pos) (tRevA X.K te) := by
  refine ⟨fun pins s σ H Q I h => ?_⟩
  refine Subscript_ (thn (he.run pins s σ H _ I h) fun v s1 ⟨x, H1, I1, r1, q1⟩ => ?_)
  obtain ⟨a, xs, ex, q⟩ := q1
  subst ex
  cases r1
  have hst : PO X (some (.UnaryOp .USub (.Constant (.int 1) k p1) p2)) (tPart (tUn (rU fun i => .int (-i)) (tC (.int 1)))) := po_some (pe_un un_neg pe_int)
  refine wpAny_Slice (thn (po_none.run pins s1 σ H1 (fun o H2 => o = none ∧ H2 = H1) I1 ⟨rfl, rfl⟩) fun vl s2 ⟨l, H2, I2, pl, el, e2⟩ => ?_)
  subst el e2
  refine thn (po_none.run pins s2 σ H2 (fun o H3 => o = none ∧ H3 = H2) I2 ⟨rfl, rfl⟩) fun vu s3 ⟨u, H3, I3, pu, eu, e3⟩ => ?_
  subst eu e3
  refine thn (hst.run pins s3 σ H3 (fun o H4 => o = some (-1) ∧ H4 = H3) I3 ⟨1, rfl, -1, rfl, rfl, rfl⟩) fun vs s4 ⟨o, H4, I4, ps, eo, e4⟩ => ?_
  subst eo e4
  cases pl
  cases pu
  have I5 : Inv X pins σ H4 { s4 with heap := s4.heap.push { cls := .type "slice", data := .fields #[.none, .none, vs] } } := I4.kept (t' := s4.toks) fun b ob q => Heap.get?_push_of_some _ q
  rcases q with ⟨hx, q⟩ | ⟨hx, q⟩
  · obtain ⟨its, r, ht, hz⟩ := I5.list hx
    have hlen := r.length
    show wpAny (model X.prog X.w) X.A (subscriptTail e (.Slice none none (some (.UnaryOp .USub (.Constant (.int 1) k p1) p2)) p3) (.ref a) (.ref s4.heap.objs.size)) (EP X pins σ Q) X.xe { s4 with heap := s4.heap.push { cls := .type "slice", data := .fields #[.none, .none, vs] } }
    refine tail_any (ops := [.ref a, .ref s4.heap.objs.size]) ht.isList.typeIs (PySem.slot_list_getitem.lookup) ?_ (by with_unfolding_all rfl)
    refine wpAny_getItem_list_slice ht.isList (Heap.IsSliceOf.new _ .none .none vs) .none .none ps (by decide) ?_ (by rw [List.size_toArray]; omega)
    rw [PySem.W.krv_pick]
    refine ⟨.ref _, _, I5.laid (t' := s4.toks) (o := .lst xs.reverse) (fun b ob q => Heap.get?_push_of_some _ q) (Nat.le_refl _) ?_, rfl, q _ (I5.hok.fresh (Nat.le_refl _))⟩
    exact ⟨by rw [List.length_reverse]; exact hz, _, 0, r.reverse, Heap.get?_push_size _ rfl⟩
  · obtain ⟨its, r, ht, hz⟩ := I5.tuple hx
    have hlen := r.length
    show wpAny (model X.prog X.w) X.A (subscriptTail e (.Slice none none (some (.UnaryOp .USub (.Constant (.int 1) k p1) p2)) p3) (.ref a) (.ref s4.heap.objs.size)) (EP X pins σ Q) X.xe { s4 with heap := s4.heap.push { cls := .type "slice", data := .fields #[.none, .none, vs] } }
    refine tail_any (ops := [.ref a, .ref s4.heap.objs.size]) ht.typeIs (PyProof.Rows.slot_tuple_getitem.lookup) ?_ (by with_unfolding_all rfl)
    refine getItem_tuple_rev ht (Heap.IsSliceOf.new _ .none .none vs) ps ?_ (by omega)
    exact newT_now I5 r.reverse (by rw [List.length_reverse]; exact hz) q
end Kt
end T_Kt
section T_WkA
/-! Wk: a small language of values for what the text's defs do; its meaning is a function of data. -/
namespace Wk
open PySem
abbrev D := PyData

/-- a slot of a def: nothing known; a datum that stands still; a list of its own; the script -/
inductive Sl where
  | no | fr (d : D) | bx (ds : List D) | scr (ns : List Int)
abbrev Env := List Sl
/-- a value on its way: a datum that stands still; what the slot i holds; a new list that nobody holds yet -/
inductive Vl where
  | fr (d : D) | bx (i : Nat) | ow (ds : List D)
/-- an error: its class by name -/
abbrev Exn := String
inductive Out (α : Type) where
  | ok (a : α) (ρ : Env) | exc (x : Exn) (ρ : Env) | stuck
namespace Out
def bind {α β : Type} (o : Out α) (f : α → Env → Out β) : Out β := match o with
  | ok a ρ => f a ρ
  | exc x ρ => exc x ρ
  | stuck => stuck
theorem assoc {α β γ : Type} (o : Out α) (f : α → Env → Out β) (g : β → Env → Out γ) : (o.bind f).bind g = o.bind fun a r => (f a r).bind g := by cases o <;> rfl
@[simp] theorem bind_ok {α β : Type} (a : α) (ρ : Env) (f : α → Env → Out β) : (Out.ok a ρ).bind f = f a ρ := id rfl
@[simp] theorem bind_exc {α β : Type} (x : Exn) (ρ : Env) (f : α → Env → Out β) : (Out.exc x ρ : Out α).bind f = .exc x ρ := id rfl
@[simp] theorem bind_stuck {α β : Type} (f : α → Env → Out β) : (Out.stuck : Out α).bind f = .stuck := id rfl
def ofO {α : Type} (o : Option α) (ρ : Env) : Out α := match o with
  | some a => ok a ρ
  | none => stuck
@[simp] theorem ofO_some {α : Type} (a : α) (ρ : Env) : ofO (some a) ρ = .ok a ρ := id rfl
@[simp] theorem ofO_none {α : Type} (ρ : Env) : ofO (none : Option α) ρ = .stuck := id rfl
end Out

abbrev LIM : Nat := 16777216
/-- what a value is now -/
def Vl.data (v : Vl) (ρ : Env) : Option D := match v with
  | .fr d => some d
  | .ow ds => some (.list ds)
  | .bx i => match ρ[i]? with
    | some (.bx ds) => some (.list ds)
    | some (.fr d) => some d
    | _ => none
/-- a list that a slice, a loop may read (the script too) -/
def Vl.dataR (v : Vl) (ρ : Env) : Option D := match v with
  | .fr d => some d
  | .ow ds => some (.list ds)
  | .bx i => match ρ[i]? with
    | some (.bx ds) => some (.list ds)
    | some (.fr d) => some d
    | some (.scr ns) => some (.list (ns.map .int))
    | _ => none
/-- made to stand still -/
def Vl.fz (v : Vl) (ρ : Env) : Out D := match v with
  | .fr d => .ok d ρ
  | .ow ds => .ok (.list ds) ρ
  | .bx i => match ρ[i]? with
    | some (.bx ds) => .ok (.list ds) (ρ.set i (.fr (.list ds)))
    | some (.fr d) => .ok d ρ
    | _ => .stuck
/-- a new list stands still; what a slot holds is left -/
def Vl.lay (v : Vl) : Vl := match v with
  | .ow ds => .fr (.list ds)
  | v => v
/-- a value that is no object with parts -/
def scalar : D → Bool
  | .none => true
  | .bool _ => true
  | .int _ => true
  | .str _ => true
  | _ => false

/-! ### operations on data -/
inductive Bo where
  | add | sub | mul | mod | fdiv | pow | shl
  deriving DecidableEq
inductive Co where
  | eq | ne | lt | le | gt | ge | isin | notin | isN | notN
  deriving DecidableEq
inductive Bf where
  | len | abs | min2 | max2 | sum | all | any | tuple | list | int | str | maxL | minL | sorted
  deriving DecidableEq
inductive Ty where
  | tint | tbool | tstr | tlist | ttuple
  deriving DecidableEq
inductive Me where
  | append | extend | pop | popAt | index | join
  deriving DecidableEq

def small (i : Int) : Bool := decide (-(2 ^ 64) < i) && decide (i < 2 ^ 64)
/-- shaped: what == may be asked of -/
abbrev shp (d : D) : Bool := SeqAt.shaped d
def b2i (b : Bool) : Int := if b then 1 else 0
def binD (op : Bo) (a b : D) : Option Vl := match op, a, b with
  | .add, .int i, .int j => some (.fr (.int (i + j)))
  | .add, .str x, .str y => if x.length + y.length ≤ LIM then some (.fr (.str (x ++ y))) else none
  | .add, .tuple xs, .tuple ys => if xs.length + ys.length ≤ LIM then some (.fr (.tuple (xs ++ ys))) else none
  | .add, .list xs, .list ys => if xs.length + ys.length ≤ LIM then some (.ow (xs ++ ys)) else none
  | .sub, .int i, .int j => some (.fr (.int (i - j)))
  | .mul, .int i, .int j => if small i || small j then some (.fr (.int (i * j))) else none
  | .mul, .tuple xs, .int k => if xs.length ≤ 1000 ∧ -1000 ≤ k ∧ k ≤ 1000 then some (.fr (.tuple (List.replicate k.toNat xs).flatten)) else none
  | .mul, .list xs, .int k => if xs.length * k.toNat ≤ LIM ∧ -(2 ^ 63) ≤ k ∧ k < 2 ^ 63 then some (.ow (List.replicate k.toNat xs).flatten) else none
  | .mod, .int i, .int j => if 0 < j then some (.fr (.int (i % j))) else none
  | .fdiv, .int i, .int j => if 0 < j ∧ j < 1073741824 then some (.fr (.int (i / j))) else none
  | .pow, .int i, .int j => if 0 ≤ j ∧ j ≤ 1000000 ∧ i.natAbs < 2 ^ 64 then some (.fr (.int (i ^ j.toNat))) else none
  | .shl, .int i, .int j => if 0 ≤ j ∧ j ≤ 1000000 ∧ i.natAbs < 2 ^ 64 then some (.fr (.int (i * 2 ^ j.toNat))) else none
  | _, _, _ => none
def truth : D → Option Bool
  | .none => some false
  | .bool b => some b
  | .int i => some (i != 0)
  | .str x => if x.length ≤ LIM then some ((x.length : Int) != 0) else none
  | .list xs => some (!xs.isEmpty)
  | .tuple xs => some (!xs.isEmpty)
  | .dict _ => none
@[simp] def isNone : D → Bool
  | .none => true
  | _ => false
def cmpD (op : Co) (a b : D) : Option Bool := match op, a, b with
  | .eq, a, b => if shp a ∧ shp b then some (PyData.eqv a b) else none
  | .ne, a, b => if shp a ∧ shp b then some (!PyData.eqv a b) else none
  | .lt, .int i, .int j => some (decide (i < j))
  | .le, .int i, .int j => some (decide (i ≤ j))
  | .gt, .int i, .int j => some (decide (j < i))
  | .ge, .int i, .int j => some (decide (j ≤ i))
  | .isin, a, .list ds => if shp a ∧ shp (.list ds) then some (ds.any fun z => PyData.eqv z a) else none
  | .notin, a, .list ds => if shp a ∧ shp (.list ds) then some (!ds.any fun z => PyData.eqv z a) else none
  | .isin, a, .tuple ds => if shp a ∧ shp (.tuple ds) then some (ds.any fun z => PyData.eqv z a) else none
  | .notin, a, .tuple ds => if shp a ∧ shp (.tuple ds) then some (!ds.any fun z => PyData.eqv z a) else none
  | .isN, a, .none => some (isNone a)
  | .notN, a, .none => some (!isNone a)
  | .isN, .bool a, .bool b => some (decide (a = b))
  | .notN, .bool a, .bool b => some (!decide (a = b))
  | _, _, _ => none
/-- the place that an index means -/
def ixOf (n : Nat) (i : Int) : Option Nat := if 0 ≤ i then (if i < n then some i.toNat else none) else if -(n : Int) ≤ i then some (i + n).toNat else none
def ixD (a b : D) : Option Vl := match a, b with
  | .list xs, .int i => (ixOf xs.length i).bind fun j => xs[j]?.map .fr
  | .tuple xs, .int i => (ixOf xs.length i).bind fun j => xs[j]?.map .fr
  | .str x, .int i => if x.length ≤ LIM then (ixOf x.cps.toList.length i).bind fun j => x.cps.toList[j]?.map fun c => .fr (.str ⟨#[c]⟩) else none
  | _, _ => none
/-- a slice's end, brought into the list -/
def cutAt (n d : Nat) : Option Int → Nat := HT.sIx n d
def cutL {α : Type} (xs : List α) (lo hi : Option Int) : List α := (xs.drop (cutAt xs.length 0 lo)).take (cutAt xs.length xs.length hi - cutAt xs.length 0 lo)
def slD (a : D) (lo hi : Option Int) : Option Vl := match a with
  | .list xs => some (.ow (cutL xs lo hi))
  | .tuple xs => some (.fr (.tuple (cutL xs lo hi)))
  | .str x => if x.length ≤ LIM then some (.fr (.str (L2.cutS x lo hi))) else none
  | _ => none
def intsOf : List D → Option (List Int)
  | [] => some []
  | .int i :: r => (intsOf r).map (i :: ·)
  | _ :: _ => none
def boolsOf : List D → Option (List Bool)
  | [] => some []
  | .bool i :: r => (boolsOf r).map (i :: ·)
  | _ :: _ => none
def strsOf : List D → Option (List Str)
  | [] => some []
  | .str i :: r => (strsOf r).map (i :: ·)
  | _ :: _ => none
def oneUp : D → Bool
  | .tuple (_ :: _) => true
  | _ => false
def noTup : D → Bool
  | .none => false
  | .tuple _ => false
  | _ => true
/-- the sorted list of alike data -/
def sortD (ds : List D) : Option (List D) :=
  if (ds.all fun a => ds.all fun b => PySem.W.alike a b) && (ds.all oneUp || ds.all noTup) && ds.all (fun d => decide (d.depth ≤ 64)) then some (ds.mergeSort (PySem.W.dataLe false id)) else none
def biD (f : Bf) (as : List D) : Option Vl := match f, as with
  | .len, [.list xs] => some (.fr (.int xs.length))
  | .len, [.tuple xs] => some (.fr (.int xs.length))
  | .len, [.str x] => if x.length ≤ LIM then some (.fr (.int x.length)) else none
  | .abs, [.int i] => some (.fr (.int (if i < 0 then -i else i)))
  | .min2, [.int i, .int j] => some (.fr (.int (if j < i then j else i)))
  | .max2, [.int i, .int j] => some (.fr (.int (if j > i then j else i)))
  | .sum, [.list xs] => (intsOf xs).map fun ns => .fr (.int ns.sum)
  | .all, [.list xs] => (boolsOf xs).map fun bs => .fr (.bool (bs.all id))
  | .any, [.list xs] => (boolsOf xs).map fun bs => .fr (.bool (bs.any id))
  | .tuple, [.list xs] => some (.fr (.tuple xs))
  | .tuple, [.tuple xs] => some (.fr (.tuple xs))
  | .list, [.list xs] => some (.ow xs)
  | .list, [.tuple xs] => some (.ow xs)
  | .int, [.int i] => some (.fr (.int i))
  | .int, [.bool b] => some (.fr (.int (b2i b)))
  | .str, [.int i] => if i.natAbs.log2 < 1920 then some (.fr (.str (toString i))) else none
  | .sorted, [.list xs] => (sortD xs).map .ow
  | .sorted, [.tuple xs] => (sortD xs).map .ow
  | _, _ => none
@[simp] def isTy (k : Ty) (d : D) : Bool := match k, d with
  | .tint, .int _ => true
  | .tint, .bool _ => true
  | .tbool, .bool _ => true
  | .tstr, .str _ => true
  | .tlist, .list _ => true
  | .ttuple, .tuple _ => true
  | _, _ => false
def notDict : D → Bool
  | .dict _ => false
  | _ => true

/-! ### the terms -/
/-- a target: a slot, or a row of targets -/
inductive Tg where
  | nm (i : Nat) | tp (l : Tg) | nil | cons (h t : Tg)
  deriving DecidableEq
inductive T where
  | var (i : Nat) | lit (d : D)
  | neg (a : T) | not (a : T) | bin (op : Bo) (a b : T) | cmp (op : Co) (a b : T) | chain (o1 o2 : Co) (a b c : T)
  | and (a b : T) | or (a b : T) | ite (c a b : T) | tup (l : T) | lst (l : T)
  | nil | cons (a r : T)
  | call (f : String) (l : T) | bi (f : Bf) (l : T) | isi (ks : List Ty) (a : T)
  | meth (m : Me) (i : Nat) (l : T)
  | ix (a b : T) | sl (a lo hi : T) | idx (a b : T) | rev (a : T)
  | comp (tg : Tg) (own : List Nat) (it c e : T)
  | listIt (it : T) | tupIt (it : T)
  | dat (a : T) | rng1 (a : T) | rng2 (a b : T) | enum (a : T) | zip (a b : T)
  | skip | seq (a b : T) | set (i : Nat) (e : T) | setT (tg : Tg) (e : T) | setIx (i : Nat) (k e : T) | expr (e : T) | ret (e : T) | retN
  | ife (c a b : T) | whl (c b : T) | forr (tg : Tg) (it b : T) | brk | cnt | raise (x : Exn) | par (i j : Nat) (a b : T) | par3 (i j k : Nat) (a b c : T)
  | tryE (b : T) (x : Exn) (h : T)

inductive Fl where
  | nx | bk | ct | rt (v : Vl)

/-! ### targets -/
mutual
def asg : Tg → D → Env → Option Env
  | .nm i, d, ρ => if i < ρ.length then some (ρ.set i (.fr d)) else none
  | .tp l, .tuple ds, ρ => asgs l ds ρ
  | .tp l, .list ds, ρ => asgs l ds ρ
  | _, _, _ => none
def asgs : Tg → List D → Env → Option Env
  | .nil, [], ρ => some ρ
  | .cons h t, d :: ds, ρ => (asg h d ρ).bind (asgs t ds)
  | _, _, _ => none
end

mutual
def Tg.slots : Tg → List Nat
  | .nm i => [i]
  | .tp l => slotsL l
  | _ => []
def Tg.slotsL : Tg → List Nat
  | .cons h t => slots h ++ slotsL t
  | _ => []
end
/-! ### loops -/
/-- the slots of a block's own names forgotten -/
def wipeE (ρ : Env) : List Nat → Env
  | [] => ρ
  | v :: vs => (wipeE ρ vs).set v .no
/-- the slots as they were -/
def backE (ρ0 ρ : Env) : List Nat → Env
  | [] => ρ
  | v :: vs => (backE ρ0 ρ vs).set v (ρ0.getD v .no)
/-- a comprehension's turns -/
def cloop (own : List Nat) (tg : Tg) (c : Env → Out Bool) (e : Env → Out D) : List D → List D → Env → Out (List D)
  | [], acc, ρ => .ok acc ρ
  | d :: ds, acc, ρ => (Out.ofO (asg tg d (wipeE ρ own)) ρ).bind fun ρ1 _ => (c ρ1).bind fun b ρ2 =>
      if b then (e ρ2).bind fun x ρ3 => if acc.length < LIM then cloop own tg c e ds (acc ++ [x]) (wipeE ρ3 own) else .stuck
      else cloop own tg c e ds acc (wipeE ρ2 own)
def floop (tg : Tg) (b : Env → Out Fl) : List D → Env → Out Fl
  | [], ρ => .ok .nx ρ
  | d :: ds, ρ => (Out.ofO (asg tg d ρ) ρ).bind fun ρ1 _ => (b ρ1).bind fun f ρ2 => match f with
      | .nx => floop tg b ds ρ2
      | .ct => floop tg b ds ρ2
      | .bk => .ok .nx ρ2
      | .rt v => .ok (.rt v) ρ2
/-- a while, n turns at most -/
def wloopN (c : Env → Out Bool) (b : Env → Out Fl) : Nat → Env → Option (Out Fl)
  | 0, _ => none
  | n + 1, ρ => match c ρ with
    | .stuck => some .stuck
    | .exc x ρ1 => some (.exc x ρ1)
    | .ok false ρ1 => some (.ok .nx ρ1)
    | .ok true ρ1 => match b ρ1 with
      | .stuck => some .stuck
      | .exc x ρ2 => some (.exc x ρ2)
      | .ok .nx ρ2 => wloopN c b n ρ2
      | .ok .ct ρ2 => wloopN c b n ρ2
      | .ok .bk ρ2 => some (.ok .nx ρ2)
      | .ok (.rt v) ρ2 => some (.ok (.rt v) ρ2)
open Classical in
noncomputable def wloop (c : Env → Out Bool) (b : Env → Out Fl) (ρ : Env) : Out Fl :=
  if h : ∃ n r, wloopN c b n ρ = some r then (Classical.choose_spec h).choose else .stuck
theorem wloopN_mono {c : Env → Out Bool} {b : Env → Out Fl} : ∀ {n m : Nat} {ρ : Env} {r : Out Fl}, wloopN c b n ρ = some r → n ≤ m → wloopN c b m ρ = some r
  | 0, _, _, _, h, _ => by cases h
  | n + 1, 0, _, _, _, hl => absurd hl (by omega)
  | n + 1, m + 1, ρ, r, h, hl => by
    unfold wloopN at h ⊢
    cases hc : c ρ with
    | stuck => simp only [hc] at h ⊢; exact h
    | exc x ρ1 => simp only [hc] at h ⊢; exact h
    | ok k ρ1 =>
      cases k with
      | false => simp only [hc] at h ⊢; exact h
      | true =>
        cases hb : b ρ1 with
        | stuck => simp only [hc, hb] at h ⊢; exact h
        | exc x ρ2 => simp only [hc, hb] at h ⊢; exact h
        | ok f ρ2 =>
          cases f with
          | nx => simp only [hc, hb] at h ⊢; exact wloopN_mono (n := n) (m := m) h (by omega)
          | ct => simp only [hc, hb] at h ⊢; exact wloopN_mono (n := n) (m := m) h (by omega)
          | bk => simp only [hc, hb] at h ⊢; exact h
          | rt v => simp only [hc, hb] at h ⊢; exact h
theorem wloop_of {c : Env → Out Bool} {b : Env → Out Fl} {n : Nat} {ρ : Env} {r : Out Fl} (h : wloopN c b n ρ = some r) : wloop c b ρ = r := by
  have hx : ∃ n r, wloopN c b n ρ = some r := ⟨n, r, h⟩
  have e : wloop c b ρ = (Classical.choose_spec hx).choose := by unfold wloop; rw [dif_pos hx]
  rw [e]
  have q := (Classical.choose_spec hx).choose_spec
  have q1 := wloopN_mono q (Nat.le_max_left (Classical.choose hx) n)
  have q2 := wloopN_mono h (Nat.le_max_right (Classical.choose hx) n)
  rw [q1] at q2
  exact Option.some.inj q2
/-- a while that comes to an end has its turns -/
theorem wloop_ends {c : Env → Out Bool} {b : Env → Out Fl} {ρ : Env} (h : wloop c b ρ ≠ .stuck) : ∃ n, wloopN c b n ρ = some (wloop c b ρ) := by
  by_cases hx : ∃ n r, wloopN c b n ρ = some r
  · obtain ⟨n, r, e⟩ := hx
    exact ⟨n, by rw [wloop_of e, e]⟩
  · exfalso
    apply h
    unfold wloop
    rw [dif_neg hx]
theorem wloop_done {c : Env → Out Bool} {b : Env → Out Fl} {ρ ρ1 : Env} (h : c ρ = .ok false ρ1) : wloop c b ρ = .ok .nx ρ1 :=
  wloop_of (n := 1) (by unfold wloopN; rw [h])
theorem wloop_ret {c : Env → Out Bool} {b : Env → Out Fl} {ρ ρ1 ρ2 : Env} {v : Vl} (h : c ρ = .ok true ρ1) (hb : b ρ1 = .ok (.rt v) ρ2) : wloop c b ρ = .ok (.rt v) ρ2 :=
  wloop_of (n := 1) (by unfold wloopN; rw [h]; simp only [hb])
theorem wloop_bk {c : Env → Out Bool} {b : Env → Out Fl} {ρ ρ1 ρ2 : Env} (h : c ρ = .ok true ρ1) (hb : b ρ1 = .ok .bk ρ2) : wloop c b ρ = .ok .nx ρ2 :=
  wloop_of (n := 1) (by unfold wloopN; rw [h]; simp only [hb])
theorem wloop_exc {c : Env → Out Bool} {b : Env → Out Fl} {ρ ρ1 ρ2 : Env} {x : Exn} (h : c ρ = .ok true ρ1) (hb : b ρ1 = .exc x ρ2) : wloop c b ρ = .exc x ρ2 :=
  wloop_of (n := 1) (by unfold wloopN; rw [h]; simp only [hb])
theorem wloop_step {c : Env → Out Bool} {b : Env → Out Fl} {ρ ρ1 ρ2 : Env} (h : c ρ = .ok true ρ1) (hb : b ρ1 = .ok .nx ρ2) : wloop c b ρ = wloop c b ρ2 := by
  by_cases hx : ∃ n r, wloopN c b n ρ2 = some r
  · obtain ⟨n, r, e⟩ := hx
    rw [wloop_of e]
    exact wloop_of (n := n + 1) (by unfold wloopN; rw [h]; simp only [hb]; exact e)
  · have h1 : wloop c b ρ2 = .stuck := by unfold wloop; rw [dif_neg hx]
    rw [h1]
    unfold wloop
    rw [dif_neg]
    rintro ⟨n, r, e⟩
    cases n with
    | zero => cases e
    | succ n =>
      unfold wloopN at e
      rw [h] at e
      simp only [hb] at e
      exact hx ⟨n, r, e⟩

/-! ### the meaning -/
/-- what a def of the text is worth: of its arguments (slots of the caller's kind) what it hands back, and the arguments behind it -/
abbrev FnV := List Sl → Out Vl
abbrev Fns := String → FnV
def toSl (v : Vl) (ρ : Env) : Option Sl := match v with
  | .fr d => some (.fr d)
  | .ow ds => some (.fr (.list ds))
  | .bx i => ρ[i]?
/-- the arguments of a call -/
def argSl (ρ : Env) : List Vl → Option (List Sl)
  | [] => some []
  | v :: vs => match toSl v ρ, argSl ρ vs with
    | some s, some r => some (s :: r)
    | _, _ => none
/-- the arguments' slots behind a call -/
def putSl (ρ : Env) : List Vl → List Sl → Env
  | .bx i :: vs, s :: ss => putSl (ρ.set i s) vs ss
  | _ :: vs, _ :: ss => putSl ρ vs ss
  | _, _ => ρ
/-- no slot is handed over twice -/
def bxs : List Vl → List Nat
  | .bx i :: vs => i :: bxs vs
  | _ :: vs => bxs vs
  | [] => []
def callV (F : FnV) (vs : List Vl) (ρ : Env) : Out Vl :=
  if (bxs vs).Nodup then
    match argSl ρ vs with
    | none => .stuck
    | some ss => match F ss with
      | .stuck => .stuck
      | .exc x ss' => .exc x (putSl ρ vs ss')
      | .ok (.fr d) ss' => .ok (.fr d) (putSl ρ vs ss')
      | .ok (.ow ds) ss' => .ok (.ow ds) (putSl ρ vs ss')
      | .ok (.bx _) _ => .stuck
  else .stuck
/-- a method of a list: what it hands back, the list behind it -/
def methD (m : Me) (ds : List D) (vs : List D) : Option (Vl × List D) := match m, vs with
  | .append, [d] => if ds.length < LIM then some (.fr .none, ds ++ [d]) else none
  | .extend, [.list es] => if ds.length + es.length ≤ LIM then some (.fr .none, ds ++ es) else none
  | .pop, [] => match ds[ds.length - 1]? with
    | some d => some (.fr d, ds.dropLast)
    | none => none
  | .popAt, [.int k] => if 0 ≤ k ∧ k < 2 ^ 62 then
      match ds[k.toNat]? with
      | some d => some (.fr d, ds.eraseIdx k.toNat)
      | none => none
    else none
  | _, _ => none
/-- .. of the list that slot i holds -/
def methV (m : Me) (i : Nat) (vs : List D) (ρ : Env) : Out Vl := match ρ[i]? with
  | some (.bx ds) => match methD m ds vs with
    | some (r, ds') => .ok r (ρ.set i (.bx ds'))
    | none => .stuck
  | _ => .stuck
def rngD : List D → Option (List D)
  | [.int j] => if -(2 ^ 62) ≤ j ∧ j < 2 ^ 62 then some ((List.range j.toNat).map fun (k : Nat) => .int (k : Int)) else none
  | [.int i, .int j] => if -(2 ^ 62) ≤ i ∧ i < 2 ^ 62 ∧ -(2 ^ 62) ≤ j ∧ j < 2 ^ 62 then some ((List.range (j - i).toNat).map fun (k : Nat) => .int (i + (k : Int))) else none
  | _ => none
def seqOf : D → Option (List D)
  | .list xs => some xs
  | .tuple xs => some xs
  | .str x => some (x.cps.toList.map fun c => .str ⟨#[c]⟩)
  | _ => none
def lenOk : D → Bool
  | .str _ => false
  | _ => true
def enumD (xs : List D) : List D := (List.range xs.length).zipWith (fun (k : Nat) d => .tuple [.int (k : Int), d]) xs
def zipD (a b : D) : Option (List D) := match a, b with
  | .list xs, .list ys => some (xs.zipWith (fun x y => .tuple [x, y]) ys)
  | .tuple xs, .tuple ys => some (xs.zipWith (fun x y => .tuple [x, y]) ys)
  | _, _ => none
def enumL : D → Option (List D)
  | .list xs => some (enumD xs)
  | .tuple xs => some (enumD xs)
  | _ => none
def partD : D → Option (Option Int)
  | .int i => some (some i)
  | _ => none
def fzs : List Vl → Env → Out (List D)
  | [], ρ => .ok [] ρ
  | v :: vs, ρ => (v.fz ρ).bind fun d ρ1 => (fzs vs ρ1).bind fun ds ρ2 => .ok (d :: ds) ρ2
def datas (ρ : Env) : List Vl → Option (List D)
  | [] => some []
  | v :: vs => match v.data ρ, datas ρ vs with
    | some d, some r => some (d :: r)
    | _, _ => none
/-- the truth of a value -/
def tru (v : Vl) (ρ : Env) : Out Bool := match (v.lay.data ρ).bind truth with
  | some b => .ok b ρ
  | none => .stuck
/-- an operation on two data -/
def two (f : D → D → Option Vl) (v w : Vl) (ρ : Env) : Out Vl := match v.lay.data ρ, w.lay.data ρ with
  | some x, some y => Out.ofO (f x y) ρ
  | _, _ => .stuck
def cmpV (op : Co) (x y : D) : Option Vl := (cmpD op x y).map fun b => .fr (.bool b)
def Out.calm {α : Type} (o : Out α) : Out α := match o with
  | .exc _ _ => .stuck
  | o => o
def isiV (ks : List Ty) (v : Vl) (ρ : Env) : Out Vl := match v.lay.data ρ with
  | some d => if notDict d then .ok (.fr (.bool (ks.any fun k => isTy k d))) ρ else .stuck
  | none => .stuck
def negV (v : Vl) (ρ : Env) : Out Vl := match v.lay.data ρ with
  | some (.int i) => .ok (.fr (.int (-i))) ρ
  | _ => .stuck
def slV (v : Vl) (l h : Option Int) (ρ : Env) : Out Vl := match v.lay.dataR ρ with
  | some x => Out.ofO (slD x l h) ρ
  | none => .stuck
/-- the kind of a row that is looked through -/
inductive Rk where
  | l | t
  deriving DecidableEq
def kindV (v : Vl) (ρ : Env) : Option Rk := match v.lay.data ρ with
  | some (.list _) => some .l
  | some (.tuple _) => some .t
  | _ => none
/-- the first place of an equal one -/
def idxL (ds : List D) (d : D) : Option Vl := (ds.findIdx? fun z => PyData.eqv z d).map fun (j : Nat) => .fr (.int (j : Int))
def idxD (k : Rk) (a d : D) : Option Vl := match k, a with
  | .l, .list ds => if shp (.list ds) ∧ shp d then idxL ds d else none
  | .t, .tuple ds => if shp (.tuple ds) ∧ shp d then idxL ds d else none
  | _, _ => none
def revD : D → Option Vl
  | .list ds => some (.ow ds.reverse)
  | .tuple ds => some (.fr (.tuple ds.reverse))
  | _ => none
def revV (v : Vl) (ρ : Env) : Out Vl := match v.lay.dataR ρ with
  | some x => Out.ofO (revD x) ρ
  | none => .stuck
def biV (f : Bf) (vs : List Vl) (ρ : Env) : Out Vl := match datas ρ vs with
  | some ds => Out.ofO (biD f ds) ρ
  | none => .stuck
def tupV (ds : List D) (ρ : Env) : Out Vl := if ds.length ≤ LIM then .ok (.fr (.tuple ds)) ρ else .stuck
def lstV (ds : List D) (ρ : Env) : Out Vl := if ds.length ≤ LIM then .ok (.ow ds) ρ else .stuck
def intV (v : Vl) (ρ : Env) : Out (Option Int) := match v.lay.data ρ with
  | some (.int i) => .ok (some i) ρ
  | _ => .stuck
def rngV1 (v : Vl) (ρ : Env) : Out (List D) := match v.lay.data ρ with
  | some d => Out.ofO (rngD [d]) ρ
  | none => .stuck
def rngV2 (v u : Vl) (ρ : Env) : Out (List D) := match v.lay.data ρ, u.lay.data ρ with
  | some d, some e => Out.ofO (rngD [d, e]) ρ
  | _, _ => .stuck
def noBx : Sl → Bool
  | .bx _ => false
  | _ => true
/-- a list that is handed over goes to a parameter that is never stored to -/
def heldOk (kp : List Nat) : Nat → List Sl → Bool
  | _, [] => true
  | i, s :: as => (kp.contains i || noBx s) && heldOk kp (i + 1) as
/-- the arguments behind a call -/
def endSl (kp : List Nat) : Nat → List Sl → Env → List Sl
  | _, [], _ => []
  | i, s :: as, ρ => (if kp.contains i then ρ.getD i .no else s) :: endSl kp (i + 1) as ρ
section
variable (Φ : Fns)
mutual
noncomputable def ev : T → Env → Out Vl
  | .var i, ρ => match ρ[i]? with
    | some (.fr d) => .ok (.fr d) ρ
    | some (.bx _) => .ok (.bx i) ρ
    | some (.scr _) => .ok (.bx i) ρ
    | _ => .stuck
  | .lit d, ρ => .ok (.fr d) ρ
  | .neg a, ρ => (ev a ρ).bind negV
  | .not a, ρ => ((ev a ρ).bind tru).bind fun k ρ1 => .ok (.fr (.bool (!k))) ρ1
  | .bin op a b, ρ => (ev a ρ).bind fun v ρ1 => (ev b ρ1).bind fun w ρ2 => two (binD op) v w ρ2
  | .cmp op a b, ρ => (ev a ρ).bind fun v ρ1 => (ev b ρ1).bind fun w ρ2 => two (cmpV op) v w ρ2
  | .chain o1 o2 a b c, ρ => (ev a ρ).bind fun v ρ1 => (ev b ρ1).bind fun w ρ2 => (two (cmpV o1) v w ρ2).bind fun k ρ3 => match k with
    | .fr (.bool true) => (ev c ρ3).bind fun u ρ4 => two (cmpV o2) w u ρ4
    | .fr (.bool false) => .ok (.fr (.bool false)) ρ3
    | _ => .stuck
  | .and a b, ρ => (ev a ρ).bind fun v ρ1 => (tru v ρ1).bind fun k ρ2 => if k then ev b ρ2 else .ok v.lay ρ2
  | .or a b, ρ => (ev a ρ).bind fun v ρ1 => (tru v ρ1).bind fun k ρ2 => if k then .ok v ρ2 else ev b ρ2
  | .ite c a b, ρ => ((ev c ρ).bind tru).bind fun k ρ1 => if k then ev a ρ1 else ev b ρ1
  | .tup l, ρ => (evs l ρ).bind fun vs ρ1 => (fzs vs ρ1).bind tupV
  | .lst l, ρ => (evs l ρ).bind fun vs ρ1 => (fzs vs ρ1).bind lstV
  | .call f l, ρ => (evs l ρ).bind fun vs ρ1 => callV (Φ f) vs ρ1
  | .bi f l, ρ => (evs l ρ).bind (biV f)
  | .isi ks a, ρ => (ev a ρ).bind (isiV ks)
  | .meth m i l, ρ => match ρ[i]? with
    | some (.bx _) => (evs l ρ).bind fun vs ρ1 => (fzs vs ρ1).bind fun ds ρ2 => methV m i ds ρ2
    | _ => .stuck
  | .ix a b, ρ => (ev a ρ).bind fun v ρ1 => (ev b ρ1).bind fun w ρ2 => two ixD v w ρ2
  | .idx a b, ρ => (ev a ρ).bind fun v ρ1 => match kindV v ρ1 with
    | some k => (ev b ρ1).bind fun u ρ2 => two (idxD k) v u ρ2
    | none => .stuck
  | .rev a, ρ => (ev a ρ).bind revV
  | .sl a lo hi, ρ => (ev a ρ).bind fun v ρ1 => (evp lo ρ1).bind fun l ρ2 => (evp hi ρ2).bind fun h ρ3 => slV v l h ρ3
  | .comp tg own it c e, ρ => (evi it ρ).bind fun ds ρ1 =>
      (cloop own tg (fun r => evc c r) (fun r => (ev e r).bind fun v r1 => v.fz r1) ds [] (wipeE ρ1 own)).calm.bind fun xs ρ2 => .ok (.ow xs) (backE ρ1 ρ2 own)
  | .listIt it, ρ => (evi it ρ).bind lstV
  | .tupIt it, ρ => (evi it ρ).bind tupV
  | _, _ => .stuck
noncomputable def evs : T → Env → Out (List Vl)
  | .nil, ρ => .ok [] ρ
  | .cons a r, ρ => (ev a ρ).bind fun v ρ1 => (evs r ρ1).bind fun vs ρ2 => .ok (v.lay :: vs) ρ2
  | _, _ => .stuck
/-- a slice's end -/
noncomputable def evp : T → Env → Out (Option Int)
  | .nil, ρ => .ok none ρ
  | .cons a _, ρ => (ev a ρ).bind intV
  | _, _ => .stuck
/-- a test -/
noncomputable def evc : T → Env → Out Bool
  | .nil, ρ => .ok true ρ
  | .cons a _, ρ => (ev a ρ).bind tru
  | _, _ => .stuck
/-- what is walked -/
noncomputable def evi : T → Env → Out (List D)
  | .dat a, ρ => (ev a ρ).bind fun v ρ1 => (v.fz ρ1).bind fun d ρ2 => Out.ofO (seqOf d) ρ2
  | .rng1 a, ρ => (ev a ρ).bind rngV1
  | .rng2 a b, ρ => (ev a ρ).bind fun v ρ1 => (ev b ρ1).bind fun u ρ2 => rngV2 v u ρ2
  | .enum a, ρ => (ev a ρ).bind fun v ρ1 => (v.lay.fz ρ1).bind fun d ρ2 => Out.ofO (enumL d) ρ2
  | .zip a b, ρ => (ev a ρ).bind fun v ρ1 => (ev b ρ1).bind fun u ρ2 => (v.lay.fz ρ2).bind fun d ρ3 => (u.lay.fz ρ3).bind fun e ρ4 => Out.ofO (zipD d e) ρ4
  | _, _ => .stuck
end
/-- a value given to a slot -/
def setV (i : Nat) (v : Vl) (ρ : Env) : Out Fl := if i < ρ.length then
    match v with
    | .fr d => .ok .nx (ρ.set i (.fr d))
    | .ow ds => .ok .nx (ρ.set i (.bx ds))
    | .bx j => ((Vl.bx j).fz ρ).bind fun d ρ1 => .ok .nx (ρ1.set i (.fr d))
  else .stuck
/-- a value that is no box -/
def unbx (v : Vl) (ρ : Env) : Out Vl := match v with
  | .bx i => ((Vl.bx i).fz ρ).bind fun d ρ1 => .ok (.fr d) ρ1
  | v => .ok v ρ
/-- .. given to a slot -/
def putV (i : Nat) (v : Vl) (ρ : Env) (k : Env → Out Fl) : Out Fl := if i < ρ.length then
    match v with
    | .fr d => k (ρ.set i (.fr d))
    | .ow ds => k (ρ.set i (.bx ds))
    | .bx _ => .stuck
  else .stuck
/-- a cell of the list that slot i holds -/
def setIxV (i : Nat) (d : D) (u : Vl) (ρ : Env) : Out Fl := match u.lay.data ρ, ρ[i]? with
  | some (.int k), some (.bx ds) => match ixOf ds.length k with
    | some j => .ok .nx (ρ.set i (.bx (ds.set j d)))
    | none => .stuck
  | _, _ => .stuck
/-- what is handed back -/
def retV (v : Vl) (ρ : Env) : Out Fl := match v with
  | .fr d => .ok (.rt (.fr d)) ρ
  | .ow ds => .ok (.rt (.ow ds)) ρ
  | .bx i => match ρ[i]? with
    | some (.bx ds) => .ok (.rt (.ow ds)) (ρ.set i .no)
    | some (.fr d) => .ok (.rt (.fr d)) ρ
    | _ => .stuck
noncomputable def ex : T → Env → Out Fl
  | .skip, ρ => .ok .nx ρ
  | .brk, ρ => .ok .bk ρ
  | .cnt, ρ => .ok .ct ρ
  | .seq a b, ρ => (ex a ρ).bind fun f ρ1 => match f with
    | .nx => ex b ρ1
    | f => .ok f ρ1
  | .set i e, ρ => (ev Φ e ρ).bind fun v ρ1 => setV i v ρ1
  | .setT tg e, ρ => (ev Φ e ρ).bind fun v ρ1 => (v.fz ρ1).bind fun d ρ2 => (Out.ofO (asg tg d ρ2) ρ2).bind fun ρ3 _ => .ok .nx ρ3
  | .par i j a b, ρ => (ev Φ a ρ).bind fun v ρ1 => (unbx v ρ1).bind fun v' ρ2 => (ev Φ b ρ2).bind fun u ρ3 => (unbx u ρ3).bind fun u' ρ4 => putV i v' ρ4 fun ρ5 => putV j u' ρ5 fun ρ6 => .ok .nx ρ6
  | .par3 i j k a b c, ρ => (ev Φ a ρ).bind fun v ρ1 => (unbx v ρ1).bind fun v' ρ2 => (ev Φ b ρ2).bind fun u ρ3 => (unbx u ρ3).bind fun u' ρ4 => (ev Φ c ρ4).bind fun z ρ5 => (unbx z ρ5).bind fun z' ρ6 => putV i v' ρ6 fun ρ7 => putV j u' ρ7 fun ρ8 => putV k z' ρ8 fun ρ9 => .ok .nx ρ9
  | .setIx i k e, ρ => (ev Φ e ρ).bind fun v ρ1 => (v.fz ρ1).bind fun d ρ2 => match ρ2[i]? with
    | some (.bx _) => (ev Φ k ρ2).bind fun u ρ3 => setIxV i d u ρ3
    | _ => .stuck
  | .expr e, ρ => (ev Φ e ρ).bind fun _ ρ1 => .ok .nx ρ1
  | .ret e, ρ => (ev Φ e ρ).bind fun v ρ1 => retV v ρ1
  | .retN, ρ => .ok (.rt (.fr .none)) ρ
  | .ife c a b, ρ => (evc Φ c ρ).bind fun k ρ1 => if k then ex a ρ1 else ex b ρ1
  | .whl c b, ρ => wloop (fun r => evc Φ c r) (fun r => ex b r) ρ
  | .forr tg it b, ρ => (evi Φ it ρ).bind fun ds ρ1 => floop tg (fun r => ex b r) ds ρ1
  | .raise x, ρ => .exc x ρ
  | .tryE b x h, ρ => match ex b ρ with
    | .exc y ρ1 => if y = x then ex h ρ1 else .exc y ρ1
    | o => o
  | _, _ => .stuck
/-- a def's worth: its body at its arguments, n other slots; kp: the parameters that are never stored to -/
noncomputable def fnV (np n : Nat) (kp : List Nat) (b : T) : FnV := fun as => if as.length = np ∧ heldOk kp 0 as = true then
    match ex Φ b (as ++ List.replicate n .no) with
    | .stuck => .stuck
    | .exc x ρ => .exc x (endSl kp 0 as ρ)
    | .ok .nx ρ => .ok (.fr .none) (endSl kp 0 as ρ)
    | .ok (.rt v) ρ => .ok v (endSl kp 0 as ρ)
    | .ok _ _ => .stuck
  else .stuck
end
end Wk
end T_WkA
section T_WkB
namespace Wk
open PySem PySem.Spec PyProof.Rows L2
abbrev St := L2.St

/-! ### data at a value, in a heap -/
mutual
inductive Rv (K : PySem.W.Frag) (Z : Hp) : V → D → Prop
  | non : Rv K Z .non .none
  | bl (b : Bool) : Rv K Z (.bl b) (.bool b)
  | int (i : Int) : Rv K Z (.int i) (.int i)
  | str (x : Str) : Rv K Z (.str x) (.str x)
  | lst {a : Addr} {xs : List V} {ds : List D} : Z a = some (.lst xs) → RvA K Z xs ds → Rv K Z (.ref a) (.list ds)
  | tup {a : Addr} {xs : List V} {ds : List D} : Kt.TpN Z a xs → RvA K Z xs ds → Rv K Z (.ref a) (.tuple ds)
inductive RvA (K : PySem.W.Frag) (Z : Hp) : List V → List D → Prop
  | nil : RvA K Z [] []
  | cons {v : V} {vs : List V} {d : D} {ds : List D} : Rv K Z v d → RvA K Z vs ds → RvA K Z (v :: vs) (d :: ds)
end
variable {K : PySem.W.Frag} {Z Z' Z1 Z2 H H' H1 H2 : Hp}
theorem sqT_mono {a : Addr} {xs : List V} (s : Same Z Z') (h : SqT K Z a xs) : SqT K Z' a xs := by
  rcases h with (h | ⟨o, h⟩) | h
  · exact .inl (.inl (s _ _ h))
  · exact .inl (.inr ⟨o, s _ _ h⟩)
  · exact .inr h
theorem tpN_mono {a : Addr} {xs : List V} (s : Same Z Z') (h : Kt.TpN Z a xs) : Kt.TpN Z' a xs := let ⟨o, e, q⟩ := h; ⟨o, s _ _ e, q⟩
mutual
theorem Rv.mono (s : Same Z Z') : ∀ {v : V} {d : D}, Rv K Z v d → Rv K Z' v d
  | _, _, .non => .non
  | _, _, .bl b => .bl b
  | _, _, .int i => .int i
  | _, _, .str x => .str x
  | _, _, .lst h r => .lst (s _ _ h) (RvA.mono s r)
  | _, _, .tup h r => .tup (tpN_mono s h) (RvA.mono s r)
theorem RvA.mono (s : Same Z Z') : ∀ {v : List V} {d : List D}, RvA K Z v d → RvA K Z' v d
  | _, _, .nil => .nil
  | _, _, .cons h r => .cons (Rv.mono s h) (RvA.mono s r)
end
mutual
theorem Rv.dp : ∀ {v : V} {d : D}, Rv K Z v d → Dp K Z v d
  | _, _, .non => .non
  | _, _, .bl b => .bl b
  | _, _, .int i => .int i
  | _, _, .str x => .str x
  | _, _, .lst h r => .lst (.of h) (RvA.dp r)
  | _, _, .tup h r => .tup h.sq (RvA.dp r)
theorem RvA.dp : ∀ {v : List V} {d : List D}, RvA K Z v d → DpAll K Z v d
  | _, _, .nil => .nil
  | _, _, .cons h r => .cons (Rv.dp h) (RvA.dp r)
end
namespace RvA
theorem length : ∀ {vs : List V} {ds : List D}, RvA K Z vs ds → vs.length = ds.length
  | _, _, .nil => rfl
  | _, _, .cons _ r => by simp [RvA.length r]
theorem append : ∀ {vs ws : List V} {ds es : List D}, RvA K Z vs ds → RvA K Z ws es → RvA K Z (vs ++ ws) (ds ++ es)
  | _, _, _, _, .nil, s => s
  | _, _, _, _, .cons h r, s => .cons h (RvA.append r s)
theorem get : ∀ {vs : List V} {ds : List D} {i : Nat} {d : D}, RvA K Z vs ds → ds[i]? = some d → ∃ v, vs[i]? = some v ∧ Rv K Z v d
  | _, _, _, _, .nil, e => by simp at e
  | _, _, 0, _, .cons h _, e => by simp at e; subst e; exact ⟨_, rfl, h⟩
  | _, _, i + 1, _, .cons _ r, e => by
    obtain ⟨v, h1, h2⟩ := RvA.get (i := i) r (by simpa using e)
    exact ⟨v, by simpa using h1, h2⟩
theorem take : ∀ {vs : List V} {ds : List D} (n : Nat), RvA K Z vs ds → RvA K Z (vs.take n) (ds.take n)
  | _, _, 0, _ => .nil
  | _, _, _ + 1, .nil => .nil
  | _, _, n + 1, .cons h r => .cons h (RvA.take n r)
theorem drop : ∀ {vs : List V} {ds : List D} (n : Nat), RvA K Z vs ds → RvA K Z (vs.drop n) (ds.drop n)
  | _, _, 0, r => r
  | _, _, _ + 1, .nil => .nil
  | _, _, n + 1, .cons _ r => RvA.drop n r
theorem set {v : V} {d : D} (h : Rv K Z v d) : ∀ {vs : List V} {ds : List D} (n : Nat), RvA K Z vs ds → RvA K Z (vs.set n v) (ds.set n d)
  | _, _, _, .nil => .nil
  | _, _, 0, .cons _ r => .cons h r
  | _, _, n + 1, .cons q r => .cons q (RvA.set h n r)
theorem reverse : ∀ {vs : List V} {ds : List D}, RvA K Z vs ds → RvA K Z vs.reverse ds.reverse
  | _, _, .nil => .nil
  | _, _, .cons h r => by rw [List.reverse_cons, List.reverse_cons]; exact (RvA.reverse r).append (.cons h .nil)
theorem dropLast {vs : List V} {ds : List D} (r : RvA K Z vs ds) : RvA K Z vs.dropLast ds.dropLast := by
  rw [List.dropLast_eq_take, List.dropLast_eq_take, r.length]
  exact r.take _
theorem eraseIdx : ∀ {vs : List V} {ds : List D} (n : Nat), RvA K Z vs ds → RvA K Z (vs.eraseIdx n) (ds.eraseIdx n)
  | _, _, _, .nil => .nil
  | _, _, 0, .cons _ r => r
  | _, _, n + 1, .cons q r => .cons q (RvA.eraseIdx n r)
theorem rep {vs : List V} {ds : List D} (r : RvA K Z vs ds) : ∀ k : Nat, RvA K Z (List.replicate k vs).flatten (List.replicate k ds).flatten
  | 0 => .nil
  | k + 1 => by rw [List.replicate_succ, List.replicate_succ, List.flatten_cons, List.flatten_cons]; exact r.append (RvA.rep r k)
theorem ofInts : ∀ (ns : List Int), RvA K Z (ns.map V.int) (ns.map .int)
  | [] => .nil
  | n :: ns => .cons (.int n) (ofInts ns)
theorem toInts : ∀ {vs : List V} {ds : List D} {ns : List Int}, RvA K Z vs ds → intsOf ds = some ns → vs = ns.map V.int
  | _, _, _, .nil, e => by simp [intsOf] at e; subst e; rfl
  | _, _, _, .cons (d := d) h r, e => by
    cases h with
    | int i =>
      simp only [intsOf, Option.map_eq_some_iff] at e
      obtain ⟨ms, e, rfl⟩ := e
      rw [RvA.toInts r e]; rfl
    | _ => simp [intsOf] at e
theorem toBools : ∀ {vs : List V} {ds : List D} {ns : List Bool}, RvA K Z vs ds → boolsOf ds = some ns → vs = ns.map V.bl
  | _, _, _, .nil, e => by simp [boolsOf] at e; subst e; rfl
  | _, _, _, .cons (d := d) h r, e => by
    cases h with
    | bl i =>
      simp only [boolsOf, Option.map_eq_some_iff] at e
      obtain ⟨ms, e, rfl⟩ := e
      rw [RvA.toBools r e]; rfl
    | _ => simp [boolsOf] at e
end RvA
theorem intsOf_eq : ∀ {ds : List D} {ns : List Int}, intsOf ds = some ns → ds = ns.map .int
  | [], _, e => by simp [intsOf] at e; subst e; rfl
  | d :: ds, _, e => by
    cases d with
    | int i =>
      simp only [intsOf, Option.map_eq_some_iff] at e
      obtain ⟨ms, e, rfl⟩ := e
      rw [intsOf_eq e]; rfl
    | _ => simp [intsOf] at e
@[simp] theorem intsOf_map : ∀ (ns : List Int), intsOf (ns.map .int) = some ns
  | [] => rfl
  | n :: ns => by simp [intsOf, intsOf_map ns]
@[simp] theorem boolsOf_map : ∀ (ns : List Bool), boolsOf (ns.map .bool) = some ns
  | [] => rfl
  | n :: ns => by simp [boolsOf, boolsOf_map ns]

/-- what is asked of now: a list may stand in H alone, its items stand still -/
def Sh (K : PySem.W.Frag) (Z H : Hp) (v : V) : D → Prop
  | .list ds => ∃ a vs, v = .ref a ∧ H a = some (.lst vs) ∧ RvA K Z vs ds
  | d => Rv K Z v d
theorem Sh.rv {v : V} {d : D} (s : Same Z H) (h : Sh K Z H v d) : Rv K H v d := by
  cases d with
  | list ds => obtain ⟨a, vs, rfl, e, r⟩ := h; exact .lst e (r.mono s)
  | _ => exact Rv.mono s h
theorem Rv.sh {v : V} {d : D} (s : Same Z H) (h : Rv K Z v d) : Sh K Z H v d := by
  cases d with
  | list ds => cases h with | lst e r => exact ⟨_, _, rfl, s _ _ e, r⟩
  | _ => exact h

/-! ### growth: nothing changes, new things come, the new things that stand still are new -/
structure Ext (Z H Z' H' : Hp) : Prop where
  z : Same Z Z'
  s : Same Z' H'
  h : Same H H'
  nz : ∀ b, Z' b ≠ none → Z b ≠ none ∨ H b = none
theorem Ext.refl (s : Same Z H) : Ext Z H Z H := ⟨.refl _, s, .refl _, fun _ h => .inl h⟩
theorem same_new {p : Addr} {o : HO} (h : H p = none) : Same H (upd H p o) := fun b x e => by
  rw [upd_ne (ne_of_none e h)]; exact e
theorem none_sub (s : Same Z H) {p : Addr} (h : H p = none) : Z p = none := Same.free s h
theorem same_upd2 {p : Addr} {o : HO} (s : Same Z H) : Same (upd Z p o) (upd H p o) := fun b x e => by
  by_cases hb : b = p
  · subst hb; rw [upd_same] at e ⊢; exact e
  · rw [upd_ne hb] at e ⊢; exact s _ _ e
theorem Ext.tup (s : Same Z H) {p : Addr} (h : H p = none) (o : HO) : Ext Z H (upd Z p o) (upd H p o) :=
  ⟨same_new (none_sub s h), same_upd2 s, same_new h, fun b hb => by
    by_cases e : b = p
    · subst e; exact .inr h
    · rw [upd_ne e] at hb; exact .inl hb⟩
theorem Ext.lst (s : Same Z H) {p : Addr} (h : H p = none) (o : HO) : Ext Z H Z (upd H p o) :=
  ⟨.refl _, fun b x e => same_new h _ _ (s _ _ e), same_new h, fun _ hb => .inl hb⟩
theorem Ext.trans (a : Ext Z H Z1 H1) (b : Ext Z1 H1 Z2 H2) : Ext Z H Z2 H2 :=
  ⟨a.z.trans b.z, b.s, a.h.trans b.h, fun c hc => by
    rcases b.nz c hc with q | q
    · exact a.nz c q
    · exact .inr (a.h.free q)⟩

/-! ### slots -/
def isBx (σ : St) (ρ : Env) (a : Addr) : Prop := ∃ (i : Nat) (ds : List D), ρ[i]? = some (Sl.bx ds) ∧ σ[i]? = some (some (V.ref a))
structure ER (K : PySem.W.Frag) (Z H : Hp) (σ : St) (ρ : Env) : Prop where
  len : ρ.length = σ.length
  sub : Same Z H
  fr : ∀ (i : Nat) (d : D), ρ[i]? = some (Sl.fr d) → ∃ v, σ[i]? = some (some v) ∧ Rv K Z v d
  bx : ∀ (i : Nat) (ds : List D), ρ[i]? = some (Sl.bx ds) → ∃ a vs, σ[i]? = some (some (V.ref a)) ∧ H a = some (.lst vs) ∧ RvA K Z vs ds ∧ Z a = none
  scr : ∀ (i : Nat) (ns : List Int), ρ[i]? = some (Sl.scr ns) → ∃ a, σ[i]? = some (some (V.ref a)) ∧ SqL K Z a (ns.map V.int)
  ne : ∀ (i j : Nat) (ds es : List D) (a : Addr), ρ[i]? = some (Sl.bx ds) → ρ[j]? = some (Sl.bx es) → σ[i]? = some (some (V.ref a)) → σ[j]? = some (some (V.ref a)) → i = j
structure Step (Z H : Hp) (σ : St) (ρ : Env) (Z' H' : Hp) (σ' : St) (ρ' : Env) : Prop where
  z : Same Z Z'
  fr : ∀ b o, H b = some o → ¬ isBx σ ρ b → H' b = some o
  nz : ∀ b, Z' b ≠ none → Z b ≠ none ∨ H b = none ∨ isBx σ ρ b
  nb : ∀ b, isBx σ' ρ' b → isBx σ ρ b ∨ H b = none
variable {σ σ' σ1 σ2 : St} {ρ ρ' ρ1 ρ2 : Env}
theorem Step.refl : Step Z H σ ρ Z H σ ρ := ⟨.refl _, fun _ _ e _ => e, fun _ h => .inl h, fun _ h => .inl h⟩
theorem Step.trans (a : Step Z H σ ρ Z1 H1 σ1 ρ1) (b : Step Z1 H1 σ1 ρ1 Z2 H2 σ2 ρ2) : Step Z H σ ρ Z2 H2 σ2 ρ2 := by
  have back : ∀ c, H1 c = none → H c = none ∨ isBx σ ρ c := fun c hc => by
    cases e : H c with
    | none => exact .inl rfl
    | some o =>
      by_cases q : isBx σ ρ c
      · exact .inr q
      · rw [a.fr c o e q] at hc; cases hc
  refine ⟨a.z.trans b.z, fun c o e q => b.fr c o (a.fr c o e q) fun q1 => ?_, fun c hc => ?_, fun c hc => ?_⟩
  · rcases a.nb c q1 with z | z
    · exact q z
    · rw [e] at z; cases z
  · rcases b.nz c hc with q | q | q
    · exact a.nz c q
    · exact .inr (back c q)
    · rcases a.nb c q with z | z
      · exact .inr (.inr z)
      · exact .inr (.inl z)
  · rcases b.nb c hc with q | q
    · exact a.nb c q
    · rcases back c q with z | z
      · exact .inr z
      · exact .inl z
theorem Ext.step (e : Ext Z H Z' H') : Step Z H σ ρ Z' H' σ ρ := ⟨e.z, fun b o h _ => e.h b o h, fun b h => (e.nz b h).imp id .inl, fun _ h => .inl h⟩
theorem sqL_mono {a : Addr} {xs : List V} (s : Same Z Z') (h : SqL K Z a xs) : SqL K Z' a xs := Same.seq s h
theorem ER.ext (r : ER K Z H σ ρ) (e : Ext Z H Z' H') : ER K Z' H' σ ρ where
  len := r.len
  sub := e.s
  fr := fun i d h => let ⟨v, a, b⟩ := r.fr i d h; ⟨v, a, b.mono e.z⟩
  bx := fun i ds h => by
    obtain ⟨a, vs, h1, h2, h3, h4⟩ := r.bx i ds h
    refine ⟨a, vs, h1, e.h _ _ h2, h3.mono e.z, ?_⟩
    cases q : Z' a with
    | none => rfl
    | some o =>
      rcases e.nz a (by rw [q]; simp) with z | z
      · exact absurd h4 z
      · rw [h2] at z; cases z
  scr := fun i ns h => let ⟨a, h1, h2⟩ := r.scr i ns h; ⟨a, h1, sqL_mono e.z h2⟩
  ne := r.ne

/-- a state reached within an expression -/
structure Pst (K : PySem.W.Frag) (Z H : Hp) (σ : St) (ρ : Env) (Z' H' : Hp) (ρ' : Env) : Prop where
  st : Step Z H σ ρ Z' H' σ ρ'
  er : ER K Z' H' σ ρ'
theorem Pst.refl (r : ER K Z H σ ρ) : Pst K Z H σ ρ Z H ρ := ⟨.refl, r⟩
theorem Pst.trans (a : Pst K Z H σ ρ Z1 H1 ρ1) (b : Pst K Z1 H1 σ ρ1 Z2 H2 ρ2) : Pst K Z H σ ρ Z2 H2 ρ2 := ⟨a.st.trans b.st, b.er⟩
theorem Pst.ext (a : Pst K Z H σ ρ Z1 H1 ρ1) (e : Ext Z1 H1 Z2 H2) : Pst K Z H σ ρ Z2 H2 ρ1 := ⟨a.st.trans e.step, a.er.ext e⟩
/-- a value on its way; Z, H, ρ: where the expression began -/
def VR (K : PySem.W.Frag) (H : Hp) (σ : St) (ρ : Env) (Z' H' : Hp) (ρ' : Env) (v : V) : Vl → Prop
  | .fr d => Rv K Z' v d
  | .bx i => σ[i]? = some (some v)
  | .ow ds => ∃ a vs, v = .ref a ∧ H' a = some (.lst vs) ∧ RvA K Z' vs ds ∧ Z' a = none ∧ ¬ isBx σ ρ' a ∧ (H a = none ∨ isBx σ ρ a)
/-- a value that is no new list -/
def VL (K : PySem.W.Frag) (σ : St) (Z' : Hp) (v : V) : Vl → Prop
  | .fr d => Rv K Z' v d
  | .bx i => σ[i]? = some (some v)
  | .ow _ => False
theorem VL.mono {v : V} {x : Vl} (s : Same Z Z') (h : VL K σ Z v x) : VL K σ Z' v x := by
  cases x with
  | fr d => exact Rv.mono s h
  | bx i => exact h
  | ow ds => exact h
theorem VL.vr {v : V} {x : Vl} (h : VL K σ Z' v x) : VR K H σ ρ Z' H' ρ' v x := by
  cases x with
  | fr d => exact h
  | bx i => exact h
  | ow ds => exact h.elim
/-- a list of ours that stands in H1 alone is made to stand still -/
theorem Pst.freeze (p : Pst K Z H σ ρ Z1 H1 ρ1) {a : Addr} {vs : List V} (h1 : H1 a = some (.lst vs)) (hz : Z1 a = none) (hb : ¬ isBx σ ρ1 a) (hn : H a = none ∨ isBx σ ρ a) : Pst K Z H σ ρ (upd Z1 a (.lst vs)) H1 ρ1 := by
  have sz : Same Z1 (upd Z1 a (.lst vs)) := same_new hz
  refine ⟨⟨p.st.z.trans sz, p.st.fr, fun b h => ?_, p.st.nb⟩, ⟨p.er.len, fun b o e => ?_, fun i d h => ?_, fun i ds h => ?_, fun i ns h => ?_, p.er.ne⟩⟩
  · by_cases e : b = a
    · subst e; exact .inr hn
    · rw [upd_ne e] at h; exact p.st.nz b h
  · by_cases hb : b = a
    · subst hb; rw [upd_same] at e; rw [← e]; exact h1
    · rw [upd_ne hb] at e; exact p.er.sub _ _ e
  · obtain ⟨v, x, y⟩ := p.er.fr i d h; exact ⟨v, x, y.mono sz⟩
  · obtain ⟨b, ws, x1, x2, x3, x4⟩ := p.er.bx i ds h
    refine ⟨b, ws, x1, x2, x3.mono sz, ?_⟩
    rw [upd_ne]
    · exact x4
    · rintro rfl; exact hb ⟨i, ds, h, x1⟩
  · obtain ⟨b, x1, x2⟩ := p.er.scr i ns h; exact ⟨b, x1, sqL_mono sz x2⟩
theorem Pst.lay {v : V} {x : Vl} (p : Pst K Z H σ ρ Z1 H1 ρ1) (h : VR K H σ ρ Z1 H1 ρ1 v x) : ∃ Z2, Same Z1 Z2 ∧ Pst K Z H σ ρ Z2 H1 ρ1 ∧ VL K σ Z2 v x.lay := by
  cases x with
  | fr d => exact ⟨Z1, .refl _, p, h⟩
  | bx i => exact ⟨Z1, .refl _, p, h⟩
  | ow ds =>
    obtain ⟨a, vs, rfl, h1, h2, h3, h4, h5⟩ := h
    exact ⟨_, same_new h3, p.freeze h1 h3 h4 h5, .lst upd_same (h2.mono (same_new h3))⟩
/-- what a laid value holds now -/
theorem ER.sh {v : V} {x : Vl} {d : D} (r : ER K Z H σ ρ) (h : VL K σ Z v x) (e : x.data ρ = some d) : Sh K Z H v d := by
  cases x with
  | fr d' => cases e; exact Rv.sh r.sub h
  | ow ds => exact h.elim
  | bx i =>
    have h : σ[i]? = some (some v) := h
    unfold Vl.data at e
    cases q : ρ[i]? with
    | none => simp [q] at e
    | some s =>
      cases s with
      | no => simp [q] at e
      | scr ns => simp [q] at e
      | fr d' =>
        simp only [q, Option.some.injEq] at e
        subst e
        obtain ⟨w, h1, h2⟩ := r.fr i _ q
        rw [h] at h1; cases h1
        exact Rv.sh r.sub h2
      | bx ds =>
        simp only [q, Option.some.injEq] at e
        subst e
        obtain ⟨a, vs, h1, h2, h3, _⟩ := r.bx i _ q
        rw [h] at h1; cases h1
        exact ⟨a, vs, rfl, h2, h3⟩
/-- what is handed on by an operation -/
def Res (K : PySem.W.Frag) (H Z' H' : Hp) (v : V) : Vl → Prop
  | .fr d => Rv K Z' v d
  | .bx _ => False
  | .ow ds => ∃ a vs, v = .ref a ∧ H' a = some (.lst vs) ∧ RvA K Z' vs ds ∧ Z' a = none ∧ H a = none
theorem Pst.res {v : V} {x : Vl} (p : Pst K Z H σ ρ Z1 H1 ρ1) (e : Ext Z1 H1 Z2 H2) (h : Res K H1 Z2 H2 v x) : VR K H σ ρ Z2 H2 ρ1 v x := by
  cases x with
  | fr d => exact h
  | bx i => exact h.elim
  | ow ds =>
    obtain ⟨a, vs, rfl, h1, h2, h3, h4⟩ := h
    refine ⟨a, vs, rfl, h1, h2, h3, fun q => ?_, ?_⟩
    · obtain ⟨i, es, q1, q2⟩ := q
      obtain ⟨b, ws, y1, y2, _⟩ := p.er.bx i es q1
      rw [q2] at y1; cases y1
      rw [h4] at y2; cases y2
    · cases e2 : H a with
      | none => exact .inl rfl
      | some o =>
        by_cases q : isBx σ ρ a
        · exact .inr q
        · rw [p.st.fr a o e2 q] at h4; cases h4
/-- what an operation's reading hands on -/
def Cont (K : PySem.W.Frag) (Z H : Hp) (r : Vl) (Q : VK) : Prop := ∀ v Z' H', Ext Z H Z' H' → Res K H Z' H' v r → Q v H'
theorem Cont.tup {Q : VK} {ds : List D} {vs : List V} (c : Cont K Z H (.fr (.tuple ds)) Q) (s : Same Z H) (r : RvA K Z vs ds) : Kt.NewT H vs Q := fun p o hp ho =>
  c _ _ _ (.tup s hp _) (.tup ⟨o, upd_same, ho⟩ (r.mono (same_new (none_sub s hp))))
theorem Cont.lst {Q : VK} {ds : List D} {vs : List V} (c : Cont K Z H (.ow ds) Q) (s : Same Z H) (r : RvA K Z vs ds) : ∀ p, H p = none → Q (.ref p) (upd H p (.lst vs)) := fun p hp =>
  c _ _ _ (.lst s hp _) ⟨p, vs, rfl, upd_same, r, none_sub s hp, hp⟩
theorem Cont.now {Q : VK} {d : D} {v : V} (c : Cont K Z H (.fr d) Q) (s : Same Z H) (r : Rv K Z v d) : Q v H := c _ _ _ (.refl s) r
end Wk
end T_WkB
section T_WkC
set_option maxHeartbeats 4000000
namespace Wk
open PySem PySem.Spec PyProof.Rows L2

/-! ### operators by values -/
/-- tuple * int, the two short ways -/
theorem tuple_mul1 (l : Addr) (items : Array Value) (n : Nat) (dd : Option Addr) (sl : Array (Option Value)) (x : Int) (u : Tok) (c0 : (decide (x < -(2 ^ 63)) || decide (x ≥ 2 ^ 63)) = false) (c1 : (items.isEmpty || x == 1) = true) :
    Meets (Builtin.«tuple.__mul__» ⟨[.ref l, .int x u], []⟩) (fun _ R s => s.heap.get? l = some { cls := .type "tuple", dict := dd, data := .seq items n, slots := sl } ∧ R (.ok (.ret (Value.ref l))) s) :=
  .of_wp fun prog w A R s h => by
    obtain ⟨hp, g, d, tk, os⟩ := s
    obtain ⟨hl, h⟩ := h
    have f1 := AutoSeq1.idx_int
    wp_walk using wpAny_loadPart' hl
    repeat (first
      | (refine wpAny_ite_false (decide_eq_false (by rw [c0]; exact Bool.false_ne_true)) ?_; wp_walk using wpAny_loadPart' hl)
      | (refine wpAny_ite_true (decide_eq_true (by rw [c1])) ?_; wp_walk using wpAny_loadPart' hl))
    exact ⟨_, rfl, h⟩
theorem tuple_mul0 (l : Addr) (items : Array Value) (n : Nat) (dd : Option Addr) (sl : Array (Option Value)) (x : Int) (u : Tok) (c0 : (decide (x < -(2 ^ 63)) || decide (x ≥ 2 ^ 63)) = false) (c1 : (items.isEmpty || x == 1) = false) (c2 : (decide (x ≤ 0) || items.isEmpty) = true) :
    Meets (Builtin.«tuple.__mul__» ⟨[.ref l, .int x u], []⟩) (fun _ R s => s.heap.get? l = some { cls := .type "tuple", dict := dd, data := .seq items n, slots := sl } ∧
      R (.ok (.ret (Value.ref s.heap.objs.size))) { s with heap := s.heap.push { cls := Value.type "tuple", data := Data.seq #[] }, toks := s.toks }) :=
  .of_wp fun prog w A R s h => by
    obtain ⟨hp, g, d, tk, os⟩ := s
    obtain ⟨hl, h⟩ := h
    have f1 := AutoSeq1.idx_int
    wp_walk using wpAny_loadPart' hl
    repeat (first
      | (refine wpAny_ite_false (decide_eq_false (by rw [c0]; exact Bool.false_ne_true)) ?_; wp_walk using wpAny_loadPart' hl)
      | (refine wpAny_ite_false (decide_eq_false (by rw [c1]; exact Bool.false_ne_true)) ?_; wp_walk using wpAny_loadPart' hl)
      | (refine wpAny_ite_true (decide_eq_true (by rw [c2])) ?_; wp_walk using wpAny_loadPart' hl))
    exact ⟨_, rfl, h⟩
variable {X : Cx}
theorem op_repN : OpR X (binaryOp .Mult) (Kt.rRepN X.K) := by
  intro pins s σ H x y v u Q I rx ry h
  obtain ⟨l, k, xs, rfl, rfl, hT, h1, h2, hz, q1, q2⟩ := h
  cases rx
  obtain ⟨t, rfl⟩ := ry
  obtain ⟨its, r, ⟨⟨cls, dd, data, sl⟩, ho, hc, n, hd⟩, hs⟩ := I.tuple hT
  simp only at hc hd
  subst hc hd
  have hle : its.length = xs.length := r.length.symm
  have c0 : (decide (k < -(2 ^ 63)) || decide (k ≥ 2 ^ 63)) = false := by
    rw [decide_eq_false (by omega), decide_eq_false (by omega)] <;> rfl
  have hemp : its.toArray.isEmpty = true ↔ xs = [] := by
    cases its with
    | nil => cases xs with
      | nil => simp
      | cons a b => simp at hle
    | cons a b => cases xs with
      | nil => simp at hle
      | cons c d => simp
  by_cases h3 : xs = [] ∨ k = 1
  · have c1 : (its.toArray.isEmpty || k == 1) = true := by
      rcases h3 with e | e
      · rw [hemp.mpr e]; rfl
      · rw [e]; simp
    refine wpAny_binaryOp_repeat_ref (T := "tuple") (U := "int") (by decide) ⟨_, ho, rfl⟩ (fun s' => typeIs_int s' k t) noFill_tuple_mul F.fills_int_mul F.slot_int_rmul repeat_tuple F.slot_int_index.lookup
      (call_meets F.slot_int_rmul (typeIs_int s k t) F.entry_int_rmul (F.args_int_rmul_2 _ _) (int_rmul_tuple k t l its.toArray n dd sl)
        ⟨ho, rfl, ⟨_, ho, rfl⟩, call_meets F.slot_tuple_mul ⟨_, ho, rfl⟩ F.entry_tuple_mul (F.args_tuple_mul_2 _ _) (tuple_mul1 l its.toArray n dd sl k t c0 c1) ⟨ho, ?_⟩⟩)
    exact ⟨.ref l, H, I, rfl, q1 h3⟩
  · have hne : xs ≠ [] := fun e => h3 (.inl e)
    have hk1 : k ≠ 1 := fun e => h3 (.inr e)
    have c1 : (its.toArray.isEmpty || k == 1) = false := by
      rw [Bool.or_eq_false_iff]
      refine ⟨?_, beq_eq_false_iff_ne.mpr hk1⟩
      cases e : its.toArray.isEmpty with
      | false => rfl
      | true => exact absurd (hemp.mp e) hne
    have mul : ∀ {P : Value → Shared → Prop}, Meets (Builtin.«tuple.__mul__» ⟨[.ref l, .int k t], []⟩) (fun _ R s => s.heap.get? l = some { cls := .type "tuple", dict := dd, data := .seq its.toArray n, slots := sl } ∧
        R (.ok (.ret (Value.ref s.heap.objs.size))) { s with heap := s.heap.push { cls := Value.type "tuple", data := Data.seq (List.replicate k.toNat its).flatten.toArray }, toks := s.toks }) := by
      intro P
      by_cases hbig : 2 ≤ k
      · have hsz0 : its.toArray.size = xs.length := by rw [List.size_toArray, hle]
        have hm : ((its.toArray.size : Nat) : Int) * k ≤ 1000000 := by
          rw [hsz0]
          have a1 : ((xs.length : Nat) : Int) * k ≤ 1000 * k := Int.mul_le_mul_of_nonneg_right (by omega) (by omega)
          omega
        have flen : (List.replicate k.toNat its).flatten.length ≤ sizeLine := by
          rw [PyProof.Rows.lm_len_rep_flat, hle, sizeLine_eq]
          have a1 : k.toNat * xs.length ≤ 1000 * 1000 := Nat.mul_le_mul (by omega) hz
          omega
        have c2 : (decide (k ≤ 0) || its.toArray.isEmpty) = false := by
          rw [Bool.or_eq_false_iff] at c1 ⊢
          exact ⟨decide_eq_false (by omega), c1.1⟩
        have c4 : Builtin.Tuple.tupleTooMany (((its.toArray.size : Nat) : Int) * k) = false := by
          unfold Builtin.Tuple.tupleTooMany
          rw [sizeLine_eq]
          exact decide_eq_false (by omega)
        have m := tuple_mulW l its.toArray n dd sl k t c0 c1 c2 (by omega) c4 (by rw [size_rep, List.size_toArray]; exact flen)
        rw [size_rep] at m
        exact m
      · have c2 : (decide (k ≤ 0) || its.toArray.isEmpty) = true := by rw [decide_eq_true (show k ≤ 0 by omega)]; rfl
        have m := tuple_mul0 l its.toArray n dd sl k t c0 c1 c2
        rw [show k.toNat = 0 by omega]
        exact m
    refine wpAny_binaryOp_repeat_ref (T := "tuple") (U := "int") (by decide) ⟨_, ho, rfl⟩ (fun s' => typeIs_int s' k t) noFill_tuple_mul F.fills_int_mul F.slot_int_rmul repeat_tuple F.slot_int_index.lookup
      (call_meets F.slot_int_rmul (typeIs_int s k t) F.entry_int_rmul (F.args_int_rmul_2 _ _) (int_rmul_tuple k t l its.toArray n dd sl)
        ⟨ho, rfl, ⟨_, ho, rfl⟩, call_meets F.slot_tuple_mul ⟨_, ho, rfl⟩ F.entry_tuple_mul (F.args_tuple_mul_2 _ _) (mul (P := fun _ _ => True)) ⟨ho, ?_⟩⟩)
    exact Kt.newT_now I (r.rep k.toNat) (by rw [PyProof.Rows.lm_len_rep_flat, sizeLine_eq]; have a1 : k.toNat * xs.length ≤ 1000 * 1000 := Nat.mul_le_mul (by omega) hz; omega) q2

/-! ### sorted of a list, of a tuple, of alike data -/
section
variable {prog : Program} {w : World} {A : Around} {E : Value → Shared → Prop} {s : Shared} {vs : List Value} {bs : List D}
theorem collect_seq {l : Addr} {o : Obj} {n : Nat} {Q : List Value → Shared → Prop} (ho : s.heap.get? l = some o) (hc : o.cls = .type "list" ∨ o.cls = .type "tuple") (hd : o.data = .seq vs.toArray n)
    (h : Q vs { s with heap := (s.heap.push (PyProof.Rows.seqObj "list" #[] 0)).update s.heap.objs.size (Obj.mapSeq (· ++ vs.toArray)) }) (hsz : vs.length ≤ sizeLine) :
    wpAny (model prog w) A (collect (.ref l)) Q E s := by
  unfold collect
  refine wpAny_bind (wpAny_runValue (codeAny_builtin PyProof.Rows.entry_proto_collect' ?_))
  show wpAny _ _ (do again (.builtin "list.__iadd__" ⟨[← newList [], .ref l], []⟩)) _ _ s
  refine wpAny_bind (wpAny_newList (wpAny_pure ⟨Code.quiet_builtin _ (by decide +kernel), codeAny_builtin PyProof.Rows.entry_list_iadd' ?_⟩))
  show wpAny _ _ (Builtin.List.listExtendWith (.ref s.heap.objs.size) (.ref l) (.ref s.heap.objs.size)) _ _ { s with heap := s.heap.push (PyProof.Rows.seqObj "list" #[] 0) }
  unfold Builtin.List.listExtendWith
  have ho' : (s.heap.push (PyProof.Rows.seqObj "list" #[] 0)).get? l = some o := Heap.get?_push_of_some _ ho
  obtain ⟨T, hT, hcls⟩ : ∃ T, (T = "list" ∨ T = "tuple") ∧ o.cls = .type T := by
    rcases hc with h | h
    · exact ⟨_, .inl rfl, h⟩
    · exact ⟨_, .inr rfl, h⟩
  refine wpAny_bind (wpAny_typeOf (T := T) ⟨o, ho', hcls⟩ ?_)
  have ht : (Builtin.List.listSameRef (.ref s.heap.objs.size) (.ref l) || Value.type T == Value.type "list" || Value.type T == Value.type "tuple") = true := by
    rcases hT with rfl | rfl
    · have e : (Value.type "list" == Value.type "list") = true := by rfl
      rw [e]; simp
    · have e : (Value.type "tuple" == Value.type "tuple") = true := by rfl
      rw [e]; simp
  rw [if_pos ht]
  refine wpAny_bind (PyProof.Rows.listItems_at ho' hd ?_)
  refine wpAny_bind (PyProof.Rows.listItems_at (xs := #[]) (n := 0) (Heap.get?_push_size _ rfl) rfl ?_)
  rw [if_neg (by simp)]
  refine wpAny_bind (PyProof.Rows.listUpdate_at (xs := #[]) (n := 0) (Heap.get?_push_size _ rfl) rfl ?_ (Nat.zero_le _) (by show (#[] ++ vs.toArray).size ≤ sizeLine + 1; simp only [Array.size_append, List.size_toArray, List.length_nil]; omega))
  refine wpAny_pure ?_
  show wpAny (model prog w) A (do
      let o ← load s.heap.objs.size
      match o.data with
      | .seq xs _ => pure xs.toList
      | _ => unsupported "internal:collect") Q E { s with heap := (s.heap.push (PyProof.Rows.seqObj "list" #[] 0)).update s.heap.objs.size (Obj.mapSeq (· ++ vs.toArray)) }
  refine wpAny_bind (wpAny_load (PyProof.Rows.get?_update_seq (Heap.get?_push_size _ rfl) _) ?_)
  show wpAny _ _ (pure ((#[] : Array Value) ++ vs.toArray).toList) Q E _
  rw [show ((#[] : Array Value) ++ vs.toArray).toList = vs by simp]
  exact wpAny_pure h
open PySem.W PySem.Calls in
theorem sorted_of_seq {l : Addr} {o : Obj} {n : Nat} {Q : Value → Shared → Prop} (ho : s.heap.get? l = some o) (hc : o.cls = .type "list" ∨ o.cls = .type "tuple") (hd : o.data = .seq vs.toArray n) (hL : vs.length ≤ sizeLine)
    (body : ∀ E' : Value → Shared → Prop, wpAny (model prog w) A.in1.in1 (Builtin.«list.sort» ⟨[.ref (s.heap.objs.size + 1)], []⟩) (fun f s' => f = .done (.ret .none) ∧ Q (.ref (s.heap.objs.size + 1)) s') E' { s with heap := copyHeap s.heap vs }) :
    wpAny (model prog w) A (call (.builtin "sorted") [.ref l] []) Q E s := by
  refine call_function_entry_kw PyProof.Rows.kind_sorted PyProof.Rows.plain_sorted PyProof.Rows.entry_sorted (PyProof.Rows.args_sorted1 _) ?_
  unfold Builtin.«sorted»
  refine wpAny_bind (m := checkCount "sorted" 1 1 _) (wpAny_pure ?_)
  refine wpAny_bind (collect_seq ho hc hd ?_ hL)
  refine wpAny_bind (wpAny_newList ?_ hL)
  have hsz : ((s.heap.push (PyProof.Rows.seqObj "list" #[] 0)).update s.heap.objs.size (Obj.mapSeq (· ++ vs.toArray))).objs.size = s.heap.objs.size + 1 := by
    rw [Heap.size_update, PyProof.Rows.size_push']
  show wpAny _ _ _ _ _ { s with heap := copyHeap s.heap vs }
  rw [hsz]
  refine wpAny_bind (wpAny_holding (wpAny_call_entry_kw PyProof.Rows.slot_list_sort ⟨_, copyHeap_at s.heap vs, rfl⟩ PyProof.Rows.entry_list_sort ?body (PyProof.Rows.args_list_sort _)))
  case body =>
    show wpAny (model prog w) A.in1.in1 (Builtin.«list.sort» ⟨[.ref (s.heap.objs.size + 1)], []⟩) _ _ _
    refine wpAny_mono (body _) (fun f s' hf => ?_) fun _ _ e => e
    obtain ⟨rfl, hq⟩ := hf
    exact ⟨_, rfl, wpAny_pure ⟨_, rfl, hq⟩⟩
end
end Wk
end T_WkC
section T_WkD
set_option maxHeartbeats 4000000
namespace Wk
open PySem PySem.Spec PyProof.Rows L2
variable {X : Cx}
theorem lim_eq : LIM = sizeLine := sizeLine_eq.symm
theorem Cont.fr {K : PySem.W.Frag} {Z H : Hp} {Q : VK} {d : D} {v : V} (c : Cont K Z H (.fr d) Q) (s : Same Z H) (r : Rv K Z v d) : Q v H := c.now s r
def pyB : Bo → Operator
  | .add => .Add | .sub => .Sub | .mul => .Mult | .mod => .Mod | .fdiv => .FloorDiv | .pow => .Pow | .shl => .LShift
def rB (K : PySem.W.Frag) (op : Bo) : R2 := fun x y H Q => ∃ Z dx dy r, Same Z H ∧ Sh K Z H x dx ∧ Sh K Z H y dy ∧ binD op dx dy = some r ∧ Cont K Z H r Q
theorem small_cmul {i j : Int} (h : (small i || small j) = true) : CMul i j := by
  simp only [small, Bool.or_eq_true, Bool.and_eq_true, decide_eq_true_eq] at h
  exact h
theorem mul_str_ok {pins : List (Addr × Obj)} {s : Shared} {σ : L2.St} {H : Hp} : True := trivial
theorem opB (op : Bo) : OpR X (binaryOp (pyB op)) (rB X.K op) := by
  intro pins s σ H x y v u Q I rx ry h
  obtain ⟨Z, dx, dy, r, sz, hx, hy, e, c⟩ := h
  unfold binD at e
  split at e
  · cases e; cases hx; cases hy
    exact op_add pins s σ H _ _ v u Q I rx ry ⟨_, _, rfl, rfl, c.now sz (.int _)⟩
  · split at e
    · cases e; cases hx; cases hy
      exact op_add_str pins s σ H _ _ v u Q I rx ry ⟨_, _, rfl, rfl, by rw [← lim_eq]; assumption, c.now sz (.str _)⟩
    · cases e
  · split at e
    · rename_i xs ys hl
      cases e
      cases hx with | tup sx ax => ?_
      cases hy with | tup sy ay => ?_
      rename_i a1 vs1 a2 vs2
      have l1 := ax.length
      have l2 := ay.length
      refine Kt.op_catN pins s σ H _ _ v u Q I rx ry ⟨_, _, _, _, rfl, rfl, sqT_mono sz sx.sq, sqT_mono sz sy.sq, by rw [List.length_append, l1, l2, ← lim_eq]; exact hl, fun e => ?_, fun e => ?_, c.tup sz (ax.append ay)⟩
      · subst e; cases ax
        exact c.now sz (.tup sy ay)
      · subst e; cases ay
        rw [List.append_nil] at c
        exact c.now sz (.tup sx ax)
    · cases e
  · split at e
    · rename_i xs ys hl
      cases e
      obtain ⟨a, vs, rfl, h1, h2⟩ := hx
      obtain ⟨b, ws, rfl, h3, h4⟩ := hy
      have l1 := h2.length
      have l2 := h4.length
      exact op_cat pins s σ H _ _ v u Q I rx ry ⟨_, _, _, _, rfl, rfl, h1, h3, by rw [l1, l2, ← lim_eq]; exact hl, fun p hp => c.lst sz (h2.append h4) p hp⟩
    · cases e
  · cases e; cases hx; cases hy
    exact op_sub pins s σ H _ _ v u Q I rx ry ⟨_, _, rfl, rfl, c.now sz (.int _)⟩
  · split at e
    · rename_i hm
      cases e; cases hx; cases hy
      exact op_mul pins s σ H _ _ v u Q I rx ry ⟨_, _, rfl, rfl, small_cmul hm, c.now sz (.int _)⟩
    · cases e
  · split at e
    · rename_i xs k hm
      cases e; cases hy
      cases hx with | tup sx ax => ?_
      have l1 := ax.length
      refine op_repN pins s σ H _ _ v u Q I rx ry ⟨_, _, _, rfl, rfl, sqT_mono sz sx.sq, by omega, hm.2.2, by rw [l1]; exact hm.1, fun h => ?_, c.tup sz (ax.rep _)⟩
      rcases h with h | h
      · subst h; cases ax
        have e0 : (List.replicate k.toNat ([] : List D)).flatten = [] := by simp
        rw [e0] at c
        exact c.now sz (.tup sx .nil)
      · subst h
        have e0 : (List.replicate (1 : Int).toNat xs).flatten = xs := by simp
        rw [e0] at c
        exact c.now sz (.tup sx ax)
    · cases e
  · split at e
    · rename_i xs k hm
      cases e; cases hy
      obtain ⟨a, vs, rfl, h1, h2⟩ := hx
      have l1 := h2.length
      exact op_rep pins s σ H _ _ v u Q I rx ry ⟨_, _, _, rfl, rfl, h1, hm.2.1, hm.2.2, by rw [l1, ← lim_eq]; exact hm.1, fun p hp => c.lst sz (h2.rep _) p hp⟩
    · cases e
  · split at e
    · rename_i hm
      cases e; cases hx; cases hy
      exact op_mod pins s σ H _ _ v u Q I rx ry ⟨_, _, rfl, rfl, hm, c.now sz (.int _)⟩
    · cases e
  · split at e
    · rename_i hm
      cases e; cases hx; cases hy
      exact op_fdiv pins s σ H _ _ v u Q I rx ry ⟨_, _, rfl, rfl, hm, c.now sz (.int _)⟩
    · cases e
  · split at e
    · rename_i hm
      cases e; cases hx; cases hy
      exact op_pow pins s σ H _ _ v u Q I rx ry ⟨_, _, rfl, rfl, hm, c.now sz (.int _)⟩
    · cases e
  · split at e
    · rename_i hm
      cases e; cases hx; cases hy
      exact op_shl pins s σ H _ _ v u Q I rx ry ⟨_, _, rfl, rfl, hm, c.now sz (.int _)⟩
    · cases e
  · cases e

/-! ### comparisons -/
def pyC : Co → CmpOp
  | .eq => .Eq | .ne => .NotEq | .lt => .Lt | .le => .LtE | .gt => .Gt | .ge => .GtE | .isin => .In | .notin => .NotIn | .isN => .Is | .notN => .IsNot
def rC (K : PySem.W.Frag) (op : Co) : R2 := fun x y H Q => ∃ Z dx dy b, Same Z H ∧ Sh K Z H x dx ∧ Sh K Z H y dy ∧ cmpD op dx dy = some b ∧ Q (.bl b) H
theorem isNone_of {K : PySem.W.Frag} {Z H : Hp} {v : V} {d : D} (h : Sh K Z H v d) : decide (v = .non) = isNone d := by
  cases d with
  | list ds => obtain ⟨a, vs, rfl, _⟩ := h; rfl
  | _ => cases h <;> rfl
theorem op_inT (hu : X.A.units + 65 < cLine) : OpR X (compareOp .In) (fun x y H Q => ∃ d ds, Dp X.K H x d ∧ Dp X.K H y (.tuple ds) ∧ SeqAt.shaped d = true ∧ SeqAt.shaped (.tuple ds) = true ∧ Q (.bl (ds.any fun z => PyData.eqv z d)) H) := by
  intro pins s σ H x y v u Q I rx ry h
  obtain ⟨d, ds, hd, he, sd, se, q⟩ := h
  obtain ⟨as, r1⟩ := Dp.reads I d x v hd rx
  obtain ⟨bs, r2⟩ := Dp.reads I (.tuple ds) y u he ry
  exact SeqAt.in_tuple_reads r2 r1 (SeqAt.canLay_of_shaped se) (SeqAt.canLay_of_shaped sd) (room_in_shaped sd hu) ⟨.bl _, H, I, rfl, q⟩
theorem op_notInT (hu : X.A.units + 65 < cLine) : OpR X (compareOp .NotIn) (fun x y H Q => ∃ d ds, Dp X.K H x d ∧ Dp X.K H y (.tuple ds) ∧ SeqAt.shaped d = true ∧ SeqAt.shaped (.tuple ds) = true ∧ Q (.bl (!ds.any fun z => PyData.eqv z d)) H) := by
  intro pins s σ H x y v u Q I rx ry h
  obtain ⟨d, ds, hd, he, sd, se, q⟩ := h
  obtain ⟨as, r1⟩ := Dp.reads I d x v hd rx
  obtain ⟨bs, r2⟩ := Dp.reads I (.tuple ds) y u he ry
  exact SeqAt.notIn_tuple_reads r2 r1 (SeqAt.canLay_of_shaped se) (SeqAt.canLay_of_shaped sd) (room_in_shaped sd hu) ⟨.bl _, H, I, rfl, q⟩
theorem opC (op : Co) (hu : X.A.units + 65 < cLine) : OpR X (compareOp (pyC op)) (rC X.K op) := by
  intro pins s σ H x y v u Q I rx ry h
  obtain ⟨Z, dx, dy, b, sz, hx, hy, e, c⟩ := h
  unfold cmpD at e
  split at e
  · split at e
    · rename_i hm
      cases e
      exact op_eqD (by omega) pins s σ H _ _ v u Q I rx ry ⟨_, _, (hx.rv sz).dp, (hy.rv sz).dp, hm.1, hm.2, c⟩
    · cases e
  · split at e
    · rename_i hm
      cases e
      exact op_neD (by omega) pins s σ H _ _ v u Q I rx ry ⟨_, _, (hx.rv sz).dp, (hy.rv sz).dp, hm.1, hm.2, c⟩
    · cases e
  · cases e; cases hx; cases hy
    exact op_lt pins s σ H _ _ v u Q I rx ry ⟨_, _, rfl, rfl, c⟩
  · cases e; cases hx; cases hy
    exact op_le pins s σ H _ _ v u Q I rx ry ⟨_, _, rfl, rfl, c⟩
  · cases e; cases hx; cases hy
    exact op_gt pins s σ H _ _ v u Q I rx ry ⟨_, _, rfl, rfl, c⟩
  · cases e; cases hx; cases hy
    exact op_ge pins s σ H _ _ v u Q I rx ry ⟨_, _, rfl, rfl, c⟩
  · split at e
    · rename_i hm
      cases e
      exact op_inD hu pins s σ H _ _ v u Q I rx ry ⟨_, _, (hx.rv sz).dp, (hy.rv sz).dp, hm.1, hm.2, c⟩
    · cases e
  · split at e
    · rename_i hm
      cases e
      exact op_notInD hu pins s σ H _ _ v u Q I rx ry ⟨_, _, (hx.rv sz).dp, (hy.rv sz).dp, hm.1, hm.2, c⟩
    · cases e
  · split at e
    · rename_i hm
      cases e
      exact op_inT hu pins s σ H _ _ v u Q I rx ry ⟨_, _, (hx.rv sz).dp, (hy.rv sz).dp, hm.1, hm.2, c⟩
    · cases e
  · split at e
    · rename_i hm
      cases e
      exact op_notInT hu pins s σ H _ _ v u Q I rx ry ⟨_, _, (hx.rv sz).dp, (hy.rv sz).dp, hm.1, hm.2, c⟩
    · cases e
  · cases e
    cases hy
    exact op_isN pins s σ H _ _ v u Q I rx ry ⟨rfl, by rw [isNone_of hx]; exact c⟩
  · cases e
    cases hy
    exact op_notN pins s σ H _ _ v u Q I rx ry ⟨rfl, by rw [isNone_of hx]; exact c⟩
  · cases e; cases hx; cases hy
    exact op_isBl pins s σ H _ _ v u Q I rx ry ⟨_, _, rfl, rfl, c⟩
  · cases e; cases hx; cases hy
    exact op_notBl pins s σ H _ _ v u Q I rx ry ⟨_, _, rfl, rfl, c⟩
  · cases e

/-! ### subscripts, slices -/
theorem ixOf_eq (n : Nat) (i : Int) : ixOf n i = ixN n i := rfl
def rX (K : PySem.W.Frag) : R2 := fun x y H Q => ∃ Z dx dy r, Same Z H ∧ Sh K Z H x dx ∧ Sh K Z H y dy ∧ ixD dx dy = some r ∧ Cont K Z H r Q
theorem opX : IxR X (rX X.K) := by
  intro value slice pins s σ H x y v u Q I rx ry h hs
  obtain ⟨Z, dx, dy, r, sz, hx, hy, e, c⟩ := h
  unfold ixD at e
  split at e
  · simp only [Option.bind_eq_some_iff, Option.map_eq_some_iff] at e
    obtain ⟨j, hj, d, hd, rfl⟩ := e
    cases hy
    obtain ⟨a, vs, rfl, h1, h2⟩ := hx
    obtain ⟨w, hw, rw'⟩ := h2.get hd
    exact ix_list value slice pins s σ H _ _ v u Q I rx ry ⟨_, _, _, w, rfl, rfl, .of h1, by unfold atI; rw [h2.length, ← ixOf_eq, hj]; exact hw, c.now sz rw'⟩ hs
  · simp only [Option.bind_eq_some_iff, Option.map_eq_some_iff] at e
    obtain ⟨j, hj, d, hd, rfl⟩ := e
    cases hy
    cases hx with | tup sx ax => ?_
    obtain ⟨w, hw, rw'⟩ := ax.get hd
    exact ix_tup value slice pins s σ H _ _ v u Q I rx ry ⟨_, _, _, w, rfl, rfl, sqT_mono sz sx.sq, by unfold atI; rw [ax.length, ← ixOf_eq, hj]; exact hw, c.now sz rw'⟩ hs
  · split at e
    · rename_i hm
      simp only [Option.bind_eq_some_iff, Option.map_eq_some_iff] at e
      obtain ⟨j, hj, d, hd, rfl⟩ := e
      cases hy; cases hx
      exact ix_str value slice pins s σ H _ _ v u Q I rx ry ⟨_, _, d, rfl, rfl, by rw [← lim_eq]; exact hm, by unfold atI; rw [← ixOf_eq, hj]; exact hd, c.now sz (.str _)⟩ hs
    · cases e
  · cases e
/-- as Sh, a list read only -/
def ShR (K : PySem.W.Frag) (Z H : Hp) (v : V) : D → Prop
  | .list ds => ∃ a vs, v = .ref a ∧ SqL K H a vs ∧ RvA K Z vs ds
  | d => Rv K Z v d
theorem Sh.shr {K : PySem.W.Frag} {Z H : Hp} {v : V} {d : D} (h : Sh K Z H v d) : ShR K Z H v d := by
  cases d with
  | list ds => obtain ⟨a, vs, rfl, h1, h2⟩ := h; exact ⟨a, vs, rfl, .of h1, h2⟩
  | _ => exact h
def rS (K : PySem.W.Frag) : V → Option Int → Option Int → Hp → VK → Prop := fun x lo hi H Q => ∃ Z dx r, Same Z H ∧ ShR K Z H x dx ∧ slD dx lo hi = some r ∧ Cont K Z H r Q
theorem RvA.cut {K : PySem.W.Frag} {Z : Hp} {vs : List V} {ds : List D} (r : RvA K Z vs ds) (lo hi : Option Int) : RvA K Z (cutV vs lo hi) (cutL ds lo hi) := by
  unfold cutV cutL cutAt
  rw [r.length]
  exact (r.drop _).take _
theorem cut_all {α : Type} (xs : List α) (lo hi : Option Int) (h : HT.sIx xs.length 0 lo = 0 ∧ HT.sIx xs.length xs.length hi = xs.length) : cutL xs lo hi = xs := by
  unfold cutL cutAt
  rw [h.1, h.2]
  simp
theorem opS : SlR X (rS X.K) := by
  intro pins s σ H x v vl vu lo hi sl Q I rx hs pl pu h
  obtain ⟨Z, dx, r, sz, hx, e, c⟩ := h
  unfold slD at e
  split at e
  · cases e
    obtain ⟨a, vs, rfl, h1, h2⟩ := hx
    exact sl_list pins s σ H _ v vl vu lo hi sl Q I rx hs pl pu ⟨_, _, rfl, h1, fun p hp => c.lst sz (h2.cut _ _) p hp⟩
  · cases e
    cases hx with | tup sx ax => ?_
    refine Kt.sl_tupN pins s σ H _ v vl vu lo hi sl Q I rx hs pl pu ⟨_, _, rfl, sqT_mono sz sx.sq, fun q => ?_, c.tup sz (ax.cut _ _)⟩
    rw [ax.length] at q
    rw [cut_all _ _ _ q] at c
    exact c.now sz (.tup sx ax)
  · split at e
    · rename_i hm
      cases e; cases hx
      exact sl_str pins s σ H _ v vl vu lo hi sl Q I rx hs pl pu ⟨_, rfl, by rw [← lim_eq]; exact hm, c.now sz (.str _)⟩
    · cases e
  · cases e

/-! ### truth -/
theorem truth_of {K : PySem.W.Frag} {Z H : Hp} {v : V} {d : D} {b : Bool} (sz : Same Z H) (h : Sh K Z H v d) (e : truth d = some b) : TruV K v H b := by
  cases d with
  | none => cases h; cases e; rfl
  | bool c => cases h; cases e; rfl
  | int i => cases h; cases e; rfl
  | str x =>
    cases h
    have e : (if x.length ≤ LIM then some ((x.length : Int) != 0) else none) = some b := e
    split at e
    · rename_i hm; cases e; exact ⟨by rw [← lim_eq]; exact hm, rfl⟩
    · cases e
  | list ds =>
    obtain ⟨a, vs, rfl, h1, h2⟩ := h
    cases e
    exact .inl ⟨vs, .of h1, by cases h2 <;> rfl⟩
  | tuple ds =>
    cases h with | tup sx ax => ?_
    cases e
    exact .inr (.inl ⟨_, sqT_mono sz sx.sq, by cases ax <;> rfl⟩)
  | dict kvs => cases e

/-! ### built-ins by values -/
theorem RvA.one {K : PySem.W.Frag} {Z : Hp} {xs : List V} {d : D} (h : RvA K Z xs [d]) : ∃ v, xs = [v] ∧ Rv K Z v d := by
  cases h with | cons h r => cases r; exact ⟨_, rfl, h⟩
/-- arguments now -/
inductive ShA (K : PySem.W.Frag) (Z H : Hp) : List V → List D → Prop
  | nil : ShA K Z H [] []
  | cons {v : V} {vs : List V} {d : D} {ds : List D} : Sh K Z H v d → ShA K Z H vs ds → ShA K Z H (v :: vs) (d :: ds)
def rBi (K : PySem.W.Frag) (f : Bf) : List V → Hp → VK → Prop := fun xs H Q => ∃ Z ds r, Same Z H ∧ ShA K Z H xs ds ∧ biD f ds = some r ∧ Cont K Z H r Q
def pyF : Bf → Value
  | .len => .builtin "len" | .abs => .builtin "abs" | .min2 => .builtin "min" | .max2 => .builtin "max" | .sum => .builtin "sum" | .all => .builtin "all" | .any => .builtin "any"
  | .tuple => .type "tuple" | .list => .type "list" | .int => .type "int" | .str => .type "str" | .maxL => .builtin "max" | .minL => .builtin "min" | .sorted => .builtin "sorted"

/-! ### sorted -/
theorem each_of {K : PySem.W.Frag} {Z : Hp} : ∀ {xs : List V} {us : List Value} {ds : List D}, Vals xs us → RvA K Z xs ds → PySem.W.EachIs (fun u d => ∃ v, RelV v u ∧ Rv K Z v d) us ds
  | _, _, _, .nil, .nil => .nil
  | _, _, _, .cons r t, .cons h q => .cons ⟨_, r, h⟩ (each_of t q)
theorem of_each {K : PySem.W.Frag} {Z : Hp} : ∀ {us : List Value} {ds : List D}, PySem.W.EachIs (fun u d => ∃ v, RelV v u ∧ Rv K Z v d) us ds → ∃ xs, Vals xs us ∧ RvA K Z xs ds
  | _, _, .nil => ⟨[], .nil, .nil⟩
  | _, _, .cons ⟨v, r, h⟩ t => let ⟨xs, a, b⟩ := of_each t; ⟨v :: xs, .cons r a, .cons h b⟩
theorem each_imp {α β : Type} {R R' : α → β → Prop} (k : ∀ a b, R a b → R' a b) : ∀ {us : List α} {ds : List β}, PySem.W.EachIs R us ds → PySem.W.EachIs R' us ds
  | _, _, .nil => .nil
  | _, _, .cons h t => .cons (k _ _ h) (each_imp k t)
def rSortD (K : PySem.W.Frag) : List V → Hp → VK → Prop := fun vs H Q => ∃ Z a xs ds es, vs = [V.ref a] ∧ Same Z H ∧ (SqL K H a xs ∨ SqT K H a xs) ∧ RvA K Z xs ds ∧ sortD ds = some es ∧
  ∀ ys p, RvA K Z ys es → H p = none → Q (.ref p) (upd H p (.lst ys))
open PySem.W in
theorem cr_sortD (hu : X.A.units + 68 < cLine) : CallR X (.builtin "sorted") (rSortD X.K) := by
  intro pins s σ H vs us Q I r h
  obtain ⟨Z, a, xs, ds, es, rfl, sz, hs, hr, e, q⟩ := h
  rw [Vals.ref1 r]
  obtain ⟨its, rv, o, n, ho, hc, hd, hz⟩ : ∃ (its : List Value), Vals xs its ∧ ∃ (o : Obj) (n : Nat), s.heap.get? a = some o ∧ (o.cls = .type "list" ∨ o.cls = .type "tuple") ∧ o.data = .seq its.toArray n ∧ xs.length ≤ sizeLine := by
    rcases hs with h | h
    · obtain ⟨its, rv, ⟨o, n, e1, e2, e3, e4⟩, hz⟩ := I.list h
      exact ⟨its, rv, o, n, e1, .inl e2, e4, hz⟩
    · obtain ⟨its, rv, ⟨o, e1, e2, n, e3⟩, hz⟩ := I.tuple h
      exact ⟨its, rv, o, n, e1, .inr e2, e3, hz⟩
  unfold sortD at e
  split at e
  · rename_i hm
    cases e
    simp only [Bool.and_eq_true, Bool.or_eq_true, List.all_eq_true, decide_eq_true_eq] at hm
    obtain ⟨⟨hal, hso⟩, hdp⟩ := hm
    have hal' : AllAlike (ds.map id) := by rw [List.map_id]; exact fun d hd d' hd' => hal d hd d' hd'
    have hso' : Sortable (ds.map id) := by
      rw [List.map_id]
      rcases hso with h | h
      · refine .inl fun d hd => ?_
        have := h d hd
        unfold oneUp at this
        split at this
        · exact ⟨_, _, rfl⟩
        · cases this
      · refine .inr fun d hd => ?_
        have := h d hd
        constructor
        · rintro rfl; cases this
        · rintro xs rfl; cases this
    have er : EachIs (fun u d => ∃ as, Reads s.heap u (id d) as) its ds := each_imp (fun u d ⟨v, r, h⟩ => Dp.reads I d v u ((h.mono sz).dp) r) (each_of rv hr)
    have er' : EachIs (fun v b => ∃ as, Reads (sortingHeap (copyHeap s.heap its) (s.heap.objs.size + 1) its) v (id b) as) its ds := each_imp (fun _ _ ⟨as, r⟩ => ⟨as, PyProof.Rows.Reads.keeps (fun _ _ => sorting_copy_old) r⟩) er
    have hL : its.length ≤ sizeLine := by rw [← rv.length]; exact hz
    refine sorted_of_seq ho hc hd hL fun E' => list_sort_vals (s := { s with heap := copyHeap s.heap its }) (copyHeap_at s.heap its) (SortsAt.data (s := { s with heap := sortingHeap (copyHeap s.heap its) (s.heap.objs.size + 1) its }) (each_map (R := fun v d => ∃ as, Reads (sortingHeap (copyHeap s.heap its) (s.heap.objs.size + 1) its) v d as) id er') hal' hso' (bound_map fun b hb => ?_)) hL ⟨rfl, ?_⟩
    · have := hdp b hb
      show X.A.units + 2 + b.depth < cLine
      omega
    · have out := sortVals_data (enc := id) false (each_of rv hr) er' hal'
      obtain ⟨ys, r1, r2⟩ := of_each out
      obtain ⟨ep, he'⟩ := PyProof.Rows.sortedAll_at s.heap its (sortVals (dataKind (sortingHeap (copyHeap s.heap its) (s.heap.objs.size + 1) its) (ds.map id)) false its its).toArray
      have hlen : ys.length ≤ sizeLine := by rw [r2.length, List.length_mergeSort, ← hr.length]; exact hz
      exact ⟨.ref _, upd H (s.heap.objs.size + 1) (.lst ys), I.laid (t' := s.toks) (fun _ _ => PyProof.Rows.sortedAll_old) (Nat.le_succ _) ⟨hlen, _, ep, r1, he'⟩, rfl, q _ _ r2 (I.hok.fresh (Nat.le_succ _))⟩
  · cases e
end Wk
end T_WkD
section T_WkE
set_option maxHeartbeats 4000000
namespace Wk
open PySem PySem.Spec PyProof.Rows L2
variable {X : Cx}
theorem ShA.inv1 {K : PySem.W.Frag} {Z H : Hp} {xs : List V} {d : D} (h : ShA K Z H xs [d]) : ∃ v, xs = [v] ∧ Sh K Z H v d := by
  cases h with | cons h r => cases r; exact ⟨_, rfl, h⟩
theorem ShA.inv2 {K : PySem.W.Frag} {Z H : Hp} {xs : List V} {d e : D} (h : ShA K Z H xs [d, e]) : ∃ v w, xs = [v, w] ∧ Sh K Z H v d ∧ Sh K Z H w e := by
  cases h with | cons h r => cases r with | cons h' r' => cases r'; exact ⟨_, _, rfl, h, h'⟩
/-- how many arguments a built-in takes here -/
def pyFn : Bf → List D → Value := fun f _ => pyF f
theorem opF (f : Bf) (hc : X.calm = true) (hu : X.A.units + 68 < cLine) : CallR X (pyF f) (rBi X.K f) := by
  intro pins s σ H xs us Q I r h
  obtain ⟨Z, ds, res, sz, ha, e, c⟩ := h
  unfold biD at e
  split at e
  · cases e
    obtain ⟨v, rfl, a, vs, rfl, h1, h2⟩ := ha.inv1
    refine call_len_seq pins s σ H _ us Q I r ⟨_, _, rfl, .inl (.of h1), ?_⟩
    rw [h2.length]; exact c.now sz (.int _)
  · cases e
    obtain ⟨v, rfl, h⟩ := ha.inv1
    cases h with | tup sx ax => ?_
    refine call_len_seq pins s σ H _ us Q I r ⟨_, _, rfl, .inr (sqT_mono sz sx.sq), ?_⟩
    rw [ax.length]; exact c.now sz (.int _)
  · split at e
    · rename_i hm
      cases e
      obtain ⟨v, rfl, h⟩ := ha.inv1
      cases h
      exact call_len_str pins s σ H _ us Q I r ⟨_, rfl, by rw [← lim_eq]; exact hm, c.now sz (.int _)⟩
    · cases e
  · cases e
    obtain ⟨v, rfl, h⟩ := ha.inv1
    cases h
    exact call_abs pins s σ H _ us Q I r ⟨_, rfl, c.now sz (.int _)⟩
  · cases e
    obtain ⟨v, w, rfl, h, h'⟩ := ha.inv2
    cases h; cases h'
    exact call_min2 hc pins s σ H _ us Q I r ⟨_, _, rfl, c.now sz (.int _)⟩
  · cases e
    obtain ⟨v, w, rfl, h, h'⟩ := ha.inv2
    cases h; cases h'
    exact call_max2 hc pins s σ H _ us Q I r ⟨_, _, rfl, c.now sz (.int _)⟩
  · rw [Option.map_eq_some_iff] at e
    obtain ⟨ns, hn, rfl⟩ := e
    obtain ⟨v, rfl, a, vs, rfl, h1, h2⟩ := ha.inv1
    have := h2.toInts hn
    subst this
    exact cr_sum hc pins s σ H _ us Q I r ⟨_, _, rfl, .of h1, c.now sz (.int _)⟩
  · rw [Option.map_eq_some_iff] at e
    obtain ⟨ns, hn, rfl⟩ := e
    obtain ⟨v, rfl, a, vs, rfl, h1, h2⟩ := ha.inv1
    have := h2.toBools hn
    subst this
    exact cr_all hc pins s σ H _ us Q I r ⟨_, _, rfl, .of h1, c.now sz (.bl _)⟩
  · rw [Option.map_eq_some_iff] at e
    obtain ⟨ns, hn, rfl⟩ := e
    obtain ⟨v, rfl, a, vs, rfl, h1, h2⟩ := ha.inv1
    have := h2.toBools hn
    subst this
    exact cr_any hc pins s σ H _ us Q I r ⟨_, _, rfl, .of h1, c.now sz (.bl _)⟩
  · cases e
    obtain ⟨v, rfl, a, vs, rfl, h1, h2⟩ := ha.inv1
    exact Kt.call_tupleN pins s σ H _ us Q I r ⟨_, _, rfl, .inl ⟨.of h1, c.tup sz h2⟩⟩
  · cases e
    obtain ⟨v, rfl, h⟩ := ha.inv1
    cases h with | tup sx ax => ?_
    exact Kt.call_tupleN pins s σ H _ us Q I r ⟨_, _, rfl, .inr ⟨sqT_mono sz sx.sq, c.now sz (.tup sx ax)⟩⟩
  · cases e
    obtain ⟨v, rfl, a, vs, rfl, h1, h2⟩ := ha.inv1
    exact call_list_of pins s σ H _ us Q I r ⟨_, _, rfl, .inl (.of h1), c.lst sz h2⟩
  · cases e
    obtain ⟨v, rfl, h⟩ := ha.inv1
    cases h with | tup sx ax => ?_
    exact call_list_of pins s σ H _ us Q I r ⟨_, _, rfl, .inr (sqT_mono sz sx.sq), c.lst sz ax⟩
  · cases e
    obtain ⟨v, rfl, h⟩ := ha.inv1
    cases h
    exact call_int1 pins s σ H _ us Q I r (.inl ⟨_, rfl, c.now sz (.int _)⟩)
  · cases e
    obtain ⟨v, rfl, h⟩ := ha.inv1
    cases h
    exact call_int1 pins s σ H _ us Q I r (.inr ⟨_, rfl, c.now sz (.int _)⟩)
  · split at e
    · rename_i hm
      cases e
      obtain ⟨v, rfl, h⟩ := ha.inv1
      cases h
      exact call_str_int pins s σ H _ us Q I r ⟨_, rfl, hm, c.now sz (.str _)⟩
    · cases e
  · rw [Option.map_eq_some_iff] at e
    obtain ⟨es, hn, rfl⟩ := e
    obtain ⟨v, rfl, a, vs, rfl, h1, h2⟩ := ha.inv1
    exact cr_sortD hu pins s σ H _ us Q I r ⟨Z, _, _, _, _, rfl, sz, .inl (.of h1), h2, hn, fun ys p hy hp => c.lst sz hy p hp⟩
  · rw [Option.map_eq_some_iff] at e
    obtain ⟨es, hn, rfl⟩ := e
    obtain ⟨v, rfl, h⟩ := ha.inv1
    cases h with | tup sx ax => ?_
    exact cr_sortD hu pins s σ H _ us Q I r ⟨Z, _, _, _, _, rfl, sz, .inr (sqT_mono sz sx.sq), ax, hn, fun ys p hy hp => c.lst sz hy p hp⟩
  · cases e

/-! ### isinstance -/
def pyT : Ty → String
  | .tint => "int" | .tbool => "bool" | .tstr => "str" | .tlist => "list" | .ttuple => "tuple"
def tyN : D → String
  | .none => "NoneType" | .bool _ => "bool" | .int _ => "int" | .str _ => "str" | .list _ => "list" | .tuple _ => "tuple" | .dict _ => "dict"
theorem kitD (d : D) (k : Ty) (h : notDict d = true) : kitB (tyN d) (pyT k) = some (isTy k d) := by
  cases d <;> cases k <;> first | (cases h; done) | (simp only [tyN, pyT, isTy]; decide +kernel)
theorem tyX_of {K : PySem.W.Frag} {Z H : Hp} {v : V} {d : D} (sz : Same Z H) (h : Sh K Z H v d) (hn : notDict d = true) : TyX K H v (.type (tyN d)) := by
  cases d with
  | none => cases h; exact .base .non
  | bool b => cases h; exact .base (.bl _)
  | int i => cases h; exact .base (.int _)
  | str x => cases h; exact .base (.str _)
  | list ds => obtain ⟨a, vs, rfl, h1, _⟩ := h; exact .base (.lst h1)
  | tuple ds =>
    cases h with | tup sx ax => ?_
    rcases sqT_mono sz sx.sq with (q | ⟨o, q⟩) | ⟨o, its, n, q, q1, _⟩
    · exact .base (.tup q)
    · exact .fTuple q
    · exact .kTuple q q1
  | dict kvs => cases hn
end Wk
end T_WkE
section T_WkF
set_option maxHeartbeats 4000000
namespace Wk
open PySem PySem.Spec PyProof.Rows L2
/-- what is wished of an error, by its class's name -/
structure Wi where
  W : WX
  cls : Exn → Option Value
  U : List Nat := []
def Wi.at (w : Wi) (x : Exn) (σ : St) (H : Hp) : Prop := ∃ c, w.cls x = some c ∧ w.W c none σ H
def Wi.none (cls : Exn → Option Value) : Wi := ⟨fun _ _ _ _ => False, cls, []⟩
theorem Wi.none_at {cls : Exn → Option Value} {x : Exn} {σ : St} {H : Hp} (h : (Wi.none cls).at x σ H) : False := let ⟨_, _, q⟩ := h; q

section
variable {α β : Type} {K : PySem.W.Frag} {w : Wi} {Z H Z1 H1 Z2 H2 : Hp} {σ : St} {ρ ρ1 ρ2 : Env}
def Po (K : PySem.W.Frag) (w : Wi) (Z H : Hp) (σ : St) (ρ : Env) (o : Out α) (R : α → Hp → Hp → Env → Prop) : Prop := match o with
  | .ok a ρ' => ∀ Z' H', Pst K Z H σ ρ Z' H' ρ' → R a Z' H' ρ'
  | .exc x ρ' => ∀ Z' H', Pst K Z H σ ρ Z' H' ρ' → w.at x σ H'
  | .stuck => False
theorem Po.rebase {o : Out α} {R : α → Hp → Hp → Env → Prop} (h : Po K w Z H σ ρ o R) (p : Pst K Z H σ ρ Z1 H1 ρ1) : Po K w Z1 H1 σ ρ1 o R := by
  cases o with
  | ok a ρ' => exact fun Z' H' q => h Z' H' (p.trans q)
  | exc x ρ' => exact fun Z' H' q => h Z' H' (p.trans q)
  | stuck => exact h
theorem Po.mono {o : Out α} {R R' : α → Hp → Hp → Env → Prop} (h : Po K w Z H σ ρ o R) (k : ∀ a Z' H' ρ', Pst K Z H σ ρ Z' H' ρ' → R a Z' H' ρ' → R' a Z' H' ρ') : Po K w Z H σ ρ o R' := by
  cases o with
  | ok a ρ' => exact fun Z' H' q => k _ _ _ _ q (h Z' H' q)
  | exc x ρ' => exact h
  | stuck => exact h
/-- what follows is asked where it begins -/
theorem Po.bind {o : Out α} {f : α → Env → Out β} {R : β → Hp → Hp → Env → Prop} {R' : α → Hp → Hp → Env → Prop} (h : Po K w Z H σ ρ (o.bind f) R)
    (k : ∀ a Z1 H1 ρ1, Pst K Z H σ ρ Z1 H1 ρ1 → (∀ Z2 H2, Pst K Z H σ ρ Z2 H2 ρ1 → Po K w Z2 H2 σ ρ1 (f a ρ1) R) → R' a Z1 H1 ρ1) : Po K w Z H σ ρ o R' := by
  cases o with
  | ok a ρ' => exact fun Z' H' q => k _ _ _ _ q fun Z2 H2 q2 => Po.rebase (by exact h) q2
  | exc x ρ' => exact h
  | stuck => exact h
/-- readings -/
def tE (K : PySem.W.Frag) (w : Wi) (g : Env → Out Vl) : TE := fun σ H Q => ∃ Z ρ, ER K Z H σ ρ ∧ Po K w Z H σ ρ (g ρ) fun r Z' H' ρ' => ∀ v, VR K H σ ρ Z' H' ρ' v r → Q v H'
def tT (K : PySem.W.Frag) (w : Wi) (g : Env → Out Bool) : TT := fun σ H Q => ∃ Z ρ, ER K Z H σ ρ ∧ Po K w Z H σ ρ (g ρ) fun b _ H' _ => Q b H'
inductive VLs (K : PySem.W.Frag) (σ : St) (Z : Hp) : List V → List Vl → Prop
  | nil : VLs K σ Z [] []
  | cons {v : V} {vs : List V} {r : Vl} {rs : List Vl} : VL K σ Z v r → VLs K σ Z vs rs → VLs K σ Z (v :: vs) (r :: rs)
def tA (K : PySem.W.Frag) (w : Wi) (g : Env → Out (List Vl)) : TA := fun σ H Q => ∃ Z ρ, ER K Z H σ ρ ∧ Po K w Z H σ ρ (g ρ) fun rs Z' H' _ => ∀ vs, VLs K σ Z' vs rs → Q vs H'
def tP (K : PySem.W.Frag) (w : Wi) (g : Env → Out (Option Int)) : TO := fun σ H Q => ∃ Z ρ, ER K Z H σ ρ ∧ Po K w Z H σ ρ (g ρ) fun l _ H' _ => Q l H'
/-- in a chain: an expression, laid, then what follows -/
theorem tE_then {g : Env → Out Vl} {f : Vl → Env → Out β} {R : β → Hp → Hp → Env → Prop} {Q : VK} (er : ER K Z H σ ρ) (h : Po K w Z H σ ρ ((g ρ).bind f) R)
    (k : ∀ r v Z1 H1 ρ1, Pst K Z H σ ρ Z1 H1 ρ1 → VL K σ Z1 v r.lay → Po K w Z1 H1 σ ρ1 (f r ρ1) R → Q v H1) : tE K w g σ H Q :=
  ⟨Z, ρ, er, h.bind fun r Z1 H1 ρ1 p hk v hv => by
    obtain ⟨Z2, s, p2, hl⟩ := p.lay hv
    exact k r v Z2 H1 ρ1 p2 hl (hk Z2 H1 p2)⟩
theorem tE_thenR {g : Env → Out Vl} {f : Vl → Env → Out β} {R : β → Hp → Hp → Env → Prop} {Q : VK} (er : ER K Z H σ ρ) (h : Po K w Z H σ ρ ((g ρ).bind f) R)
    (k : ∀ r v Z1 H1 ρ1, Pst K Z H σ ρ Z1 H1 ρ1 → VR K H σ ρ Z1 H1 ρ1 v r → Po K w Z1 H1 σ ρ1 (f r ρ1) R → Q v H1) : tE K w g σ H Q :=
  ⟨Z, ρ, er, h.bind fun r Z1 H1 ρ1 p hk v hv => k r v Z1 H1 ρ1 p hv (hk Z1 H1 p)⟩
theorem tT_then {g : Env → Out Bool} {f : Bool → Env → Out β} {R : β → Hp → Hp → Env → Prop} {Q : Bool → Hp → Prop} (er : ER K Z H σ ρ) (h : Po K w Z H σ ρ ((g ρ).bind f) R)
    (k : ∀ b Z1 H1 ρ1, Pst K Z H σ ρ Z1 H1 ρ1 → Po K w Z1 H1 σ ρ1 (f b ρ1) R → Q b H1) : tT K w g σ H Q :=
  ⟨Z, ρ, er, h.bind fun b Z1 H1 ρ1 p hk => k b Z1 H1 ρ1 p (hk Z1 H1 p)⟩
theorem tA_then {g : Env → Out (List Vl)} {f : List Vl → Env → Out β} {R : β → Hp → Hp → Env → Prop} {Q : List V → Hp → Prop} (er : ER K Z H σ ρ) (h : Po K w Z H σ ρ ((g ρ).bind f) R)
    (k : ∀ rs vs Z1 H1 ρ1, Pst K Z H σ ρ Z1 H1 ρ1 → VLs K σ Z1 vs rs → Po K w Z1 H1 σ ρ1 (f rs ρ1) R → Q vs H1) : tA K w g σ H Q :=
  ⟨Z, ρ, er, h.bind fun rs Z1 H1 ρ1 p hk vs hv => k rs vs Z1 H1 ρ1 p hv (hk Z1 H1 p)⟩
theorem tP_then {g : Env → Out (Option Int)} {f : Option Int → Env → Out β} {R : β → Hp → Hp → Env → Prop} {Q : Option Int → Hp → Prop} (er : ER K Z H σ ρ) (h : Po K w Z H σ ρ ((g ρ).bind f) R)
    (k : ∀ b Z1 H1 ρ1, Pst K Z H σ ρ Z1 H1 ρ1 → Po K w Z1 H1 σ ρ1 (f b ρ1) R → Q b H1) : tP K w g σ H Q :=
  ⟨Z, ρ, er, h.bind fun b Z1 H1 ρ1 p hk => k b Z1 H1 ρ1 p (hk Z1 H1 p)⟩
theorem Po.ofO {o : Option α} {R : α → Hp → Hp → Env → Prop} {ρ' : Env} (h : Po K w Z H σ ρ (Out.ofO o ρ') R) : ∃ a, o = some a ∧ Po K w Z H σ ρ (.ok a ρ') R := by
  cases o with
  | some a => exact ⟨a, rfl, h⟩
  | none => exact h.elim
/-- an operation's end -/
theorem Po.cont {r : Vl} {Q : VK} {H0 : Hp} {ρ0 : Env} {Z0 : Hp} (p : Pst K Z0 H0 σ ρ0 Z H ρ) (h : Po K w Z H σ ρ (.ok r ρ) fun r Z' H' ρ' => ∀ v, VR K H0 σ ρ0 Z' H' ρ' v r → Q v H') : Cont K Z H r Q := fun v Z' H' e hr =>
  h Z' H' ((Pst.refl p.er).ext e) v (p.res e hr)
theorem ER.shr {v : V} {x : Vl} {d : D} (r : ER K Z H σ ρ) (h : VL K σ Z v x) (e : x.dataR ρ = some d) : ShR K Z H v d := by
  cases x with
  | fr d' => cases e; exact (Rv.sh r.sub h).shr
  | ow ds => exact h.elim
  | bx i =>
    by_cases q : ∃ ns, ρ[i]? = some (Sl.scr ns)
    · obtain ⟨ns, q⟩ := q
      have h : σ[i]? = some (some v) := h
      unfold Vl.dataR at e
      simp only [q, Option.some.injEq] at e
      subst e
      obtain ⟨a, h1, h2⟩ := r.scr i _ q
      rw [h] at h1; cases h1
      exact ⟨a, _, rfl, sqL_mono r.sub h2, RvA.ofInts ns⟩
    · refine (r.sh (x := .bx i) h ?_).shr
      unfold Vl.dataR at e
      unfold Vl.data
      cases q2 : ρ[i]? with
      | none => simp [q2] at e
      | some s =>
        cases s with
        | no => simp [q2] at e
        | scr ns => exact absurd ⟨ns, q2⟩ q
        | fr d' => simpa [q2] using e
        | bx ds => simpa [q2] using e
theorem VLs.mono {vs : List V} {rs : List Vl} (s : Same Z Z1) : VLs K σ Z vs rs → VLs K σ Z1 vs rs
  | .nil => .nil
  | .cons h r => .cons (h.mono s) (VLs.mono s r)
theorem VLs.shA (er : ER K Z H σ ρ) : ∀ {vs : List V} {rs : List Vl} {ds : List D}, VLs K σ Z vs rs → datas ρ rs = some ds → ShA K Z H vs ds
  | _, _, _, .nil, e => by simp [datas] at e; subst e; exact .nil
  | _, _, _, .cons (r := r) h q, e => by
    unfold datas at e
    split at e
    · rename_i d r' e1 e2
      cases e
      exact .cons (er.sh h e1) (VLs.shA er q e2)
    · cases e
end

section
variable {X : Cx} {w : Wi} {a b c e : Expr} {ga gb gc : Env → Out Vl} {pos : Pos}
theorem PE.imp {t t' : TE} (h : PE X e t) (k : ∀ σ H Q, t' σ H Q → t σ H Q) : PE X e t' := ⟨fun pins s σ H Q I hw => h.run pins s σ H Q I (k _ _ _ hw)⟩
theorem PT.imp {t t' : TT} (h : PT X e t) (k : ∀ σ H Q, t' σ H Q → t σ H Q) : PT X e t' := ⟨fun pins s σ H Q I hw => h.run pins s σ H Q I (k _ _ _ hw)⟩
theorem PA.imp {es : List Expr} {t t' : TA} (h : PA X es t) (k : ∀ σ H Q, t' σ H Q → t σ H Q) : PA X es t' := ⟨fun p pins s σ H Q I hw => h.run p pins s σ H Q I (k _ _ _ hw)⟩
theorem PW.imp {t t' : TT} (h : PW X e t) (k : ∀ σ H Q, t' σ H Q → t σ H Q) : PW X e t' := ⟨fun wh pins s σ H Q I hw => h.run wh pins s σ H Q I (k _ _ _ hw)⟩

/-! ### rules -/
theorem xVar {i : Nat} {x : Str} (hN : X.N[i]? = some x) (hv : Vis X.env.scope x) (hd : (x == ("__debug__" : Str)) = false) (hcd : (x == ("__classdict__" : Str)) = false) (Φ : Fns) :
    PE X (.Name x pos) (tE X.K w (ev Φ (.var i))) := by
  refine PE.imp (pe_var (i := i) hN hv hd hcd) fun σ H Q h => ?_
  obtain ⟨Z, ρ, er, h⟩ := h
  unfold ev at h
  cases q : ρ[i]? with
  | none => simp only [q] at h; exact h.elim
  | some s =>
    cases s with
    | no => simp only [q] at h; exact h.elim
    | fr d =>
      simp only [q] at h
      obtain ⟨v, h1, h2⟩ := er.fr i d q
      exact ⟨v, h1, h Z H (.refl er) v h2⟩
    | bx ds =>
      simp only [q] at h
      obtain ⟨a, vs, h1, _⟩ := er.bx i ds q
      exact ⟨_, h1, h Z H (.refl er) _ h1⟩
    | scr ns =>
      simp only [q] at h
      obtain ⟨a, h1, _⟩ := er.scr i ns q
      exact ⟨_, h1, h Z H (.refl er) _ h1⟩
/-- a constant: whatever the heap, it is at v -/
theorem xLit {v : V} {d : D} (h : PE X e (tC v)) (hv : ∀ Z, Rv X.K Z v d) (Φ : Fns) : PE X e (tE X.K w (ev Φ (.lit d))) := by
  refine PE.imp h fun σ H Q h => ?_
  obtain ⟨Z, ρ, er, h⟩ := h
  unfold ev at h
  exact h Z H (.refl er) v (hv Z)
theorem two_post {f : D → D → Option Vl} {K : PySem.W.Frag} {Z H : Hp} {σ : St} {ρ : Env} {v u : Vl} {R : Vl → Hp → Hp → Env → Prop} (h : Po K w Z H σ ρ (two f v u ρ) R) :
    ∃ x y r, v.lay.data ρ = some x ∧ u.lay.data ρ = some y ∧ f x y = some r ∧ Po K w Z H σ ρ (.ok r ρ) R := by
  unfold two at h
  split at h
  · rename_i x y e1 e2
    obtain ⟨res, e3, h3⟩ := h.ofO
    exact ⟨x, y, res, e1, e2, e3, h3⟩
  · exact h.elim
theorem tru_post {K : PySem.W.Frag} {Z H : Hp} {σ : St} {ρ : Env} {v : Vl} {R : Bool → Hp → Hp → Env → Prop} (h : Po K w Z H σ ρ (tru v ρ) R) :
    ∃ x b, v.lay.data ρ = some x ∧ truth x = some b ∧ Po K w Z H σ ρ (.ok b ρ) R := by
  unfold tru at h
  split at h
  · rename_i b e
    obtain ⟨x, e1, e2⟩ := Option.bind_eq_some_iff.mp e
    exact ⟨x, b, e1, e2, h⟩
  · exact h.elim
theorem tru_ok {v : Vl} {ρ : Env} {x : D} {b : Bool} (h : v.lay.data ρ = some x) (h2 : truth x = some b) : tru v ρ = .ok b ρ := by
  unfold tru
  rw [h]
  show (match truth x with | some b => Out.ok b ρ | none => Out.stuck) = _
  rw [h2]
theorem Po.ok_now {α : Type} {K : PySem.W.Frag} {Z H : Hp} {σ : St} {ρ : Env} {a : α} {R : α → Hp → Hp → Env → Prop} (er : ER K Z H σ ρ) (h : Po K w Z H σ ρ (.ok a ρ) R) : R a Z H ρ := h Z H (.refl er)
theorem xBin {op : Bo} (ha : PE X a (tE X.K w ga)) (hb : PE X b (tE X.K w gb)) : PE X (.BinOp a (pyB op) b pos) (tE X.K w fun ρ => (ga ρ).bind fun v ρ1 => (gb ρ1).bind fun u ρ2 => two (binD op) v u ρ2) := by
  refine PE.imp (pe_op (opB op) ha hb) fun σ H Q h => ?_
  obtain ⟨Z, ρ, er, h⟩ := h
  refine tE_then er h fun r v Z1 H1 ρ1 p1 v1 h1 => ?_
  refine tE_then p1.er h1 fun r2 v2 Z2 H2 ρ2 p2 v2' h2 => ?_
  obtain ⟨x, y, res, e1, e2, e3, h3⟩ := two_post h2
  exact ⟨Z2, x, y, res, p2.er.sub, p2.er.sh (v1.mono p2.st.z) e1, p2.er.sh v2' e2, e3, h3.cont (p1.trans p2)⟩
theorem xCmp {op : Co} (hu : X.A.units + 65 < cLine) (hm : behindInMarks (pyC op) b = false) (ha : PE X a (tE X.K w ga)) (hb : PE X b (tE X.K w gb)) : PE X (.Compare a [pyC op] [b] pos) (tE X.K w fun ρ => (ga ρ).bind fun v ρ1 => (gb ρ1).bind fun u ρ2 => two (cmpV op) v u ρ2) := by
  refine PE.imp (pe_cmpR (opC op hu) ha hb hm) fun σ H Q h => ?_
  obtain ⟨Z, ρ, er, h⟩ := h
  refine tE_then er h fun r v Z1 H1 ρ1 p1 v1 h1 => ?_
  refine tE_then p1.er h1 fun r2 v2 Z2 H2 ρ2 p2 v2' h2 => ?_
  obtain ⟨x, y, res, e1, e2, e3, h3⟩ := two_post h2
  obtain ⟨b, e4, rfl⟩ := Option.map_eq_some_iff.mp e3
  exact ⟨Z2, x, y, b, p2.er.sub, p2.er.sh (v1.mono p2.st.z) e1, p2.er.sh v2' e2, e4, h3.ok_now p2.er _ (.bl b)⟩
/-- .. as a test -/
theorem xCmpT {op : Co} (hu : X.A.units + 65 < cLine) (hm : behindInMarks (pyC op) b = false) (ha : PE X a (tE X.K w ga)) (hb : PE X b (tE X.K w gb)) : PT X (.Compare a [pyC op] [b] pos) (tT X.K w fun ρ => ((ga ρ).bind fun v ρ1 => (gb ρ1).bind fun u ρ2 => two (cmpV op) v u ρ2).bind tru) := by
  refine PT.imp (pt_cmpR (opC op hu) ha hb hm) fun σ H Q h => ?_
  obtain ⟨Z, ρ, er, h⟩ := h
  dsimp only at h
  rw [Out.assoc] at h
  refine tE_then er h fun r v Z1 H1 ρ1 p1 v1 h1 => ?_
  rw [Out.assoc] at h1
  refine tE_then p1.er h1 fun r2 v2 Z2 H2 ρ2 p2 v2' h2 => ?_
  have h2' := h2.bind (R' := fun v Z' H' ρ' => ∀ Z2 H2, Pst X.K Z' H' σ ρ' Z2 H2 ρ' → Po X.K w Z2 H2 σ ρ' (tru v ρ') fun b _ H' _ => Q b H') fun v Z1 H1 ρ1 p k Z2 H2 p2 => k Z2 H2 (p.trans p2)
  obtain ⟨x, y, res, e1, e2, e3, h3⟩ := two_post h2'
  obtain ⟨b, e4, rfl⟩ := Option.map_eq_some_iff.mp e3
  have h4 := h3.ok_now p2.er Z2 H2 (.refl p2.er)
  rw [tru_ok (x := .bool b) (b := b) rfl rfl] at h4
  exact ⟨Z2, x, y, b, p2.er.sub, p2.er.sh (v1.mono p2.st.z) e1, p2.er.sh v2' e2, e4, b, rfl, h4.ok_now p2.er⟩
/-- a value of any kind as a test -/
theorem xTruth (ha : PE X a (tE X.K w ga)) (he : ∀ whole, isTrue a X.env whole = (do let v ← whole; standAt a.pos; holding [v] (truthy v))) : PT X a (tT X.K w fun ρ => (ga ρ).bind tru) := by
  refine PT.imp (pt_truth ha he) fun σ H Q h => ?_
  obtain ⟨Z, ρ, er, h⟩ := h
  refine tE_then er h fun r v Z1 H1 ρ1 p1 v1 h1 => ?_
  obtain ⟨x, b, e1, e2, h3⟩ := tru_post h1
  exact ⟨b, truth_of p1.er.sub (p1.er.sh v1 e1) e2, h3.ok_now p1.er⟩
end
end Wk
end T_WkF
section T_WkG
set_option maxHeartbeats 4000000
namespace Wk
open PySem PySem.Spec PyProof.Rows L2
theorem lay_lay (v : Vl) : v.lay.lay = v.lay := by cases v <;> rfl
theorem tru_lay (v : Vl) (ρ : Env) : tru v.lay ρ = tru v ρ := by unfold tru; rw [lay_lay]
theorem VL.lay_self {K : PySem.W.Frag} {σ : St} {Z : Hp} {v : V} {r : Vl} (h : VL K σ Z v r) : VL K σ Z v r.lay := by
  cases r with
  | fr d => exact h
  | bx i => exact h
  | ow ds => exact h.elim
theorem VR.back {K : PySem.W.Frag} {Z H Z1 H1 Z2 H2 : Hp} {σ : St} {ρ ρ1 ρ2 : Env} {v : V} {r : Vl} (p : Pst K Z H σ ρ Z1 H1 ρ1) (h : VR K H1 σ ρ1 Z2 H2 ρ2 v r) : VR K H σ ρ Z2 H2 ρ2 v r := by
  cases r with
  | fr d => exact h
  | bx i => exact h
  | ow ds =>
    obtain ⟨y, vs, rfl, q1, q2, q3, q4, q5⟩ := h
    refine ⟨y, vs, rfl, q1, q2, q3, q4, ?_⟩
    rcases q5 with z | z
    · cases e9 : H y with
      | none => exact .inl rfl
      | some o =>
        by_cases q9 : isBx σ ρ y
        · exact .inr q9
        · rw [p.st.fr y o e9 q9] at z; cases z
    · rcases p.st.nb y z with z | z
      · exact .inr z
      · exact .inl z
/-- the rest of an expression is an expression -/
theorem tE_tail {K : PySem.W.Frag} {w : Wi} {Z H Z1 H1 : Hp} {σ : St} {ρ ρ1 : Env} {g : Env → Out Vl} {Q : VK} (p : Pst K Z H σ ρ Z1 H1 ρ1) (h : Po K w Z1 H1 σ ρ1 (g ρ1) fun r Z' H' ρ' => ∀ v, VR K H σ ρ Z' H' ρ' v r → Q v H') : tE K w g σ H1 Q :=
  ⟨Z1, ρ1, p.er, h.mono fun r Z' H' ρ' _ q v hv => q v (hv.back p)⟩
/-- behind a test that is known -/
theorem tru_then {α : Type} {K : PySem.W.Frag} {w : Wi} {Z H : Hp} {σ : St} {ρ : Env} {v : Vl} {f : Bool → Env → Out α} {R : α → Hp → Hp → Env → Prop} (er : ER K Z H σ ρ) (h : Po K w Z H σ ρ ((tru v ρ).bind f) R) :
    ∃ x b, v.lay.data ρ = some x ∧ truth x = some b ∧ Po K w Z H σ ρ (f b ρ) R := by
  unfold tru at h
  split at h
  · rename_i b e
    obtain ⟨x, e1, e2⟩ := Option.bind_eq_some_iff.mp e
    exact ⟨x, b, e1, e2, h⟩
  · exact h.elim
section
variable {X : Cx} {w : Wi} {a b c e : Expr} {ga gb gc : Env → Out Vl} {pos : Pos} {rest : List Expr}
/-- a and b, as a value -/
theorem xAnd (ha : PE X a (tE X.K w ga)) (hb : PE X (.BoolOp .And (b :: rest) pos) (tE X.K w gb)) : PE X (.BoolOp .And (a :: b :: rest) pos) (tE X.K w fun ρ => (ga ρ).bind fun v ρ1 => (tru v ρ1).bind fun k ρ2 => if k then gb ρ2 else .ok v.lay ρ2) := by
  refine PE.imp (pe_andT ha hb) fun σ H Q h => ?_
  obtain ⟨Z, ρ, er, h⟩ := h
  refine tE_then er h fun r v Z1 H1 ρ1 p1 v1 h1 => ?_
  obtain ⟨x, k, e1, e2, h4⟩ := tru_then p1.er h1
  refine ⟨k, truth_of p1.er.sub (p1.er.sh v1 e1) e2, ?_⟩
  cases k with
  | true => exact iteT (tE_tail p1 h4)
  | false => exact iteF (h4.ok_now p1.er v v1.vr)
theorem xOr (ha : PE X a (tE X.K w ga)) (hb : PE X (.BoolOp .Or (b :: rest) pos) (tE X.K w gb)) : PE X (.BoolOp .Or (a :: b :: rest) pos) (tE X.K w fun ρ => (ga ρ).bind fun v ρ1 => (tru v ρ1).bind fun k ρ2 => if k then .ok v ρ2 else gb ρ2) := by
  refine PE.imp (pe_orT ha hb) fun σ H Q h => ?_
  obtain ⟨Z, ρ, er, h⟩ := h
  refine ⟨Z, ρ, er, h.bind fun r Z1 H1 ρ1 p1 hk v v1 => ?_⟩
  have h0 := hk Z1 H1 p1
  obtain ⟨x, k, e1, e2, h4⟩ := tru_then p1.er h0
  obtain ⟨Z2, s2, p2, vl⟩ := p1.lay v1
  refine ⟨k, truth_of p2.er.sub (p2.er.sh vl e1) e2, ?_⟩
  cases k with
  | true => exact iteT (h4.ok_now p1.er v v1)
  | false => exact iteF (tE_tail p1 h4)
theorem xOne {op : BoolOp} (ha : PE X a (tE X.K w ga)) : PE X (.BoolOp op [a] pos) (tE X.K w ga) := pe_one ha
theorem xNot {gt : Env → Out Bool} (ha : PE X a (tE X.K w ga)) : PE X (.UnaryOp .Not a pos) (tE X.K w fun ρ => ((ga ρ).bind tru).bind fun k ρ1 => .ok (.fr (.bool (!k))) ρ1) := by
  refine PE.imp (pe_notT ha) fun σ H Q h => ?_
  obtain ⟨Z, ρ, er, h⟩ := h
  dsimp only at h
  rw [Out.assoc] at h
  refine tE_then er h fun r v Z1 H1 ρ1 p1 v1 h1 => ?_
  obtain ⟨x, k, e1, e2, h4⟩ := tru_then p1.er h1
  exact ⟨k, truth_of p1.er.sub (p1.er.sh v1 e1) e2, h4.ok_now p1.er _ (.bl _)⟩
theorem xIte (hc : PT X c (tT X.K w fun ρ => (gc ρ).bind tru)) (ha : PE X a (tE X.K w ga)) (hb : PE X b (tE X.K w gb)) : PE X (.IfExp c a b pos) (tE X.K w fun ρ => ((gc ρ).bind tru).bind fun k ρ1 => if k then ga ρ1 else gb ρ1) := by
  refine PE.imp (pe_ifExp hc ha hb) fun σ H Q h => ?_
  obtain ⟨Z, ρ, er, h⟩ := h
  refine tT_then er h fun k Z1 H1 ρ1 p1 h1 => ?_
  cases k with
  | true => exact iteT (tE_tail p1 h1)
  | false => exact iteF (tE_tail p1 h1)
/-! tests -/
theorem xNotT (ha : PT X a (tT X.K w fun ρ => (ga ρ).bind tru)) : PT X (.UnaryOp .Not a pos) (tT X.K w fun ρ => (((ga ρ).bind tru).bind fun k ρ1 => .ok (Vl.fr (.bool (!k))) ρ1).bind tru) := by
  refine PT.imp (pt_not ha) fun σ H Q h => ?_
  obtain ⟨Z, ρ, er, h⟩ := h
  dsimp only at h
  rw [Out.assoc (f := fun k ρ1 => .ok (Vl.fr (.bool (!k))) ρ1)] at h
  refine tT_then er h fun k Z1 H1 ρ1 p1 h1 => ?_
  rw [Out.bind_ok, tru_ok (x := .bool (!k)) (b := !k) rfl rfl] at h1
  exact h1.ok_now p1.er
theorem xAndT (ha : PT X a (tT X.K w fun ρ => (ga ρ).bind tru)) (hb : PW X (.BoolOp .And (b :: rest) pos) (tT X.K w fun ρ => (gb ρ).bind tru)) : PW X (.BoolOp .And (a :: b :: rest) pos) (tT X.K w fun ρ => ((ga ρ).bind fun v ρ1 => (tru v ρ1).bind fun k ρ2 => if k then gb ρ2 else .ok v.lay ρ2).bind tru) := by
  refine PW.imp (pw_and ha hb) fun σ H Q h => ?_
  obtain ⟨Z, ρ, er, h⟩ := h
  have e0 : (((ga ρ).bind fun v ρ1 => (tru v ρ1).bind fun k ρ2 => if k then gb ρ2 else .ok v.lay ρ2).bind tru) = ((ga ρ).bind tru).bind fun k ρ2 => if k then (gb ρ2).bind tru else .ok false ρ2 := by
    rw [Out.assoc, Out.assoc]
    congr 1
    funext v ρ1
    cases e : tru v ρ1 with
    | stuck => rfl
    | exc x r => rfl
    | ok k ρ2 =>
      cases k with
      | true => simp
      | false =>
        have er2 : ρ2 = ρ1 := by
          unfold tru at e
          split at e
          · cases e; rfl
          · cases e
        subst er2
        simp [tru_lay, e]
  dsimp only at h
  rw [e0] at h
  refine tT_then er h fun k Z1 H1 ρ1 p1 h1 => ?_
  cases k with
  | true => exact iteT ⟨Z1, ρ1, p1.er, h1⟩
  | false => exact iteF (h1.ok_now p1.er)
theorem xOrT (ha : PT X a (tT X.K w fun ρ => (ga ρ).bind tru)) (hb : PW X (.BoolOp .Or (b :: rest) pos) (tT X.K w fun ρ => (gb ρ).bind tru)) : PW X (.BoolOp .Or (a :: b :: rest) pos) (tT X.K w fun ρ => ((ga ρ).bind fun v ρ1 => (tru v ρ1).bind fun k ρ2 => if k then .ok v ρ2 else gb ρ2).bind tru) := by
  refine PW.imp (pw_or ha hb) fun σ H Q h => ?_
  obtain ⟨Z, ρ, er, h⟩ := h
  have e0 : (((ga ρ).bind fun v ρ1 => (tru v ρ1).bind fun k ρ2 => if k then .ok v ρ2 else gb ρ2).bind tru) = ((ga ρ).bind tru).bind fun k ρ2 => if k then .ok true ρ2 else (gb ρ2).bind tru := by
    rw [Out.assoc, Out.assoc]
    congr 1
    funext v ρ1
    cases e : tru v ρ1 with
    | stuck => rfl
    | exc x r => rfl
    | ok k ρ2 =>
      cases k with
      | false => simp
      | true =>
        have er2 : ρ2 = ρ1 := by
          unfold tru at e
          split at e
          · cases e; rfl
          · cases e
        subst er2
        simp [e]
  dsimp only at h
  rw [e0] at h
  refine tT_then er h fun k Z1 H1 ρ1 p1 h1 => ?_
  cases k with
  | false => exact iteF ⟨Z1, ρ1, p1.er, h1⟩
  | true => exact iteT (h1.ok_now p1.er)
theorem xAnd1 (ha : PT X a (tT X.K w fun ρ => (ga ρ).bind tru)) : PW X (.BoolOp .And [a] pos) (tT X.K w fun ρ => (ga ρ).bind tru) := pw_and1 ha
theorem xOr1 (ha : PT X a (tT X.K w fun ρ => (ga ρ).bind tru)) : PW X (.BoolOp .Or [a] pos) (tT X.K w fun ρ => (ga ρ).bind tru) := pw_or1 ha
/-! numbers, places, slices -/
theorem xNeg (ha : PE X a (tE X.K w ga)) : PE X (.UnaryOp .USub a pos) (tE X.K w fun ρ => (ga ρ).bind negV) := by
  refine PE.imp (pe_un un_neg ha) fun σ H Q h => ?_
  obtain ⟨Z, ρ, er, h⟩ := h
  refine tE_then er h fun r v Z1 H1 ρ1 p1 v1 h1 => ?_
  unfold negV at h1
  split at h1
  · rename_i i e1
    have := p1.er.sh v1 e1
    cases this
    exact ⟨i, rfl, h1.ok_now p1.er _ (.int _)⟩
  · exact h1.elim
theorem xIx (hs : PlainIx b) (ha : PE X a (tE X.K w ga)) (hb : PE X b (tE X.K w gb)) : PE X (.Subscript a b pos) (tE X.K w fun ρ => (ga ρ).bind fun v ρ1 => (gb ρ1).bind fun u ρ2 => two ixD v u ρ2) := by
  refine PE.imp (pe_ix opX ha hb hs) fun σ H Q h => ?_
  obtain ⟨Z, ρ, er, h⟩ := h
  refine tE_then er h fun r v Z1 H1 ρ1 p1 v1 h1 => ?_
  refine tE_then p1.er h1 fun r2 v2 Z2 H2 ρ2 p2 v2' h2 => ?_
  obtain ⟨x, y, res, e1, e2, e3, h3⟩ := two_post h2
  exact ⟨Z2, x, y, res, p2.er.sub, p2.er.sh (v1.mono p2.st.z) e1, p2.er.sh v2' e2, e3, h3.cont (p1.trans p2)⟩
theorem xPartN : PO X none (tP X.K w fun ρ => .ok none ρ) := by
  refine ⟨fun pins s σ H Q I h => (po_none (X := X)).run pins s σ H Q I ?_⟩
  obtain ⟨Z, ρ, er, h⟩ := h
  exact h.ok_now er
theorem xPart (ha : PE X a (tE X.K w ga)) : PO X (some a) (tP X.K w fun ρ => (ga ρ).bind intV) := by
  refine ⟨fun pins s σ H Q I h => (po_some ha).run pins s σ H Q I ?_⟩
  obtain ⟨Z, ρ, er, h⟩ := h
  refine tE_then er h fun r v Z1 H1 ρ1 p1 v1 h1 => ?_
  unfold intV at h1
  split at h1
  · rename_i i e1
    have := p1.er.sh v1 e1
    cases this
    exact ⟨i, rfl, h1.ok_now p1.er⟩
  · exact h1.elim
theorem xSl {lo hi : Option Expr} {gl gh : Env → Out (Option Int)} {p2 : Pos} (ha : PE X a (tE X.K w ga)) (hl : PO X lo (tP X.K w gl)) (hh : PO X hi (tP X.K w gh)) :
    PE X (.Subscript a (.Slice lo hi none p2) pos) (tE X.K w fun ρ => (ga ρ).bind fun v ρ1 => (gl ρ1).bind fun l ρ2 => (gh ρ2).bind fun h ρ3 => slV v l h ρ3) := by
  refine PE.imp (pe_slice opS ha hl hh) fun σ H Q h => ?_
  obtain ⟨Z, ρ, er, h⟩ := h
  refine tE_then er h fun r v Z1 H1 ρ1 p1 v1 h1 => ?_
  refine tP_then p1.er h1 fun l Z2 H2 ρ2 p2 h2 => ?_
  refine tP_then p2.er h2 fun u Z3 H3 ρ3 p3 h3 => ?_
  unfold slV at h3
  split at h3
  · rename_i x e1
    obtain ⟨res, e3, h4⟩ := h3.ofO
    exact ⟨Z3, x, res, p3.er.sub, p3.er.shr ((v1.mono p2.st.z).mono p3.st.z) e1, e3, h4.cont ((p1.trans p2).trans p3)⟩
  · exact h3.elim
theorem xRev {k : Nat} {p1 p2 p3 : Pos} (ha : PE X a (tE X.K w ga)) : PE X (.Subscript a (.Slice none none (some (.UnaryOp .USub (.Constant (.int 1) k p1) p2)) p3) pos) (tE X.K w fun ρ => (ga ρ).bind revV) := by
  refine PE.imp (Kt.pe_revA ha) fun σ H Q h => ?_
  obtain ⟨Z, ρ, er, h⟩ := h
  refine tE_then er h fun r v Z1 H1 ρ1 p1 v1 h1 => ?_
  unfold revV at h1
  split at h1
  · rename_i x e1
    obtain ⟨res, e3, h4⟩ := h1.ofO
    have q := p1.er.shr v1 e1
    unfold revD at e3
    split at e3
    · cases e3
      obtain ⟨a, vs, rfl, h2, h3⟩ := q
      exact ⟨_, _, rfl, .inl ⟨h2, (h4.cont p1).lst p1.er.sub h3.reverse⟩⟩
    · cases e3
      cases q with | tup sx ax => ?_
      exact ⟨_, _, rfl, .inr ⟨sqT_mono p1.er.sub sx.sq, (h4.cont p1).tup p1.er.sub ax.reverse⟩⟩
    · cases e3
  · exact h1.elim
/-! arguments, displays -/
theorem xNil : PA X [] (tA X.K w fun ρ => .ok [] ρ) := by
  refine PA.imp pa_nil fun σ H Q h => ?_
  obtain ⟨Z, ρ, er, h⟩ := h
  exact h.ok_now er _ .nil
theorem xCons {es : List Expr} {gr : Env → Out (List Vl)} (hs : starEach (a :: es) X.env = (false, eval a X.env) :: starEach es X.env) (ha : PE X a (tE X.K w ga)) (hr : PA X es (tA X.K w gr)) : PA X (a :: es) (tA X.K w fun ρ => (ga ρ).bind fun v ρ1 => (gr ρ1).bind fun vs ρ2 => .ok (v.lay :: vs) ρ2) := by
  refine PA.imp (pa_cons ha hr hs) fun σ H Q h => ?_
  obtain ⟨Z, ρ, er, h⟩ := h
  refine tE_then er h fun r v Z1 H1 ρ1 p1 v1 h1 => ?_
  refine tA_then p1.er h1 fun rs vs Z2 H2 ρ2 p2 v2 h2 => ?_
  exact h2.ok_now p2.er _ (.cons (v1.mono p2.st.z) v2)
/-- what is held by slots is made to stand still -/
theorem fz_post {K : PySem.W.Frag} {Z H : Hp} {σ : St} {ρ ρ1 : Env} {v : V} {r : Vl} {d : D} (er : ER K Z H σ ρ) (h : VL K σ Z v r) (e : r.fz ρ = .ok d ρ1) : ∃ Z1, Pst K Z H σ ρ Z1 H ρ1 ∧ Rv K Z1 v d := by
  cases r with
  | ow ds => exact h.elim
  | fr d' => cases e; exact ⟨Z, .refl er, h⟩
  | bx i =>
    have h : σ[i]? = some (some v) := h
    unfold Vl.fz at e
    cases q : ρ[i]? with
    | none => simp [q] at e
    | some s =>
      cases s with
      | no => simp [q] at e
      | scr ns => simp [q] at e
      | fr d' =>
        simp only [q, Out.ok.injEq] at e
        obtain ⟨rfl, rfl⟩ := e
        obtain ⟨w, h1, h2⟩ := er.fr i _ q
        rw [h] at h1; cases h1
        exact ⟨Z, .refl er, h2⟩
      | bx ds =>
        simp only [q, Out.ok.injEq] at e
        obtain ⟨rfl, rfl⟩ := e
        obtain ⟨a, vs, h1, h2, h3, h4⟩ := er.bx i _ q
        rw [h] at h1; cases h1
        have sz : Same Z (upd Z a (.lst vs)) := same_new h4
        have hi : i < ρ.length := by
          rcases Nat.lt_or_ge i ρ.length with z | z
          · exact z
          · rw [List.getElem?_eq_none z] at q; cases q
        have look : ∀ j, (ρ.set i (.fr (.list ds)))[j]? = if i = j then some (Sl.fr (.list ds)) else ρ[j]? := fun j => by
          rw [List.getElem?_set]
          by_cases z : i = j
          · subst z; simp [hi]
          · simp [z]
        have bxo : ∀ (j : Nat) (es : List D), (ρ.set i (.fr (.list ds)))[j]? = some (Sl.bx es) → i ≠ j ∧ ρ[j]? = some (Sl.bx es) := fun j es z => by
          rw [look] at z
          by_cases y : i = j
          · simp [y] at z
          · simp [y] at z; exact ⟨y, z⟩
        refine ⟨_, ⟨⟨sz, fun b o q1 _ => q1, fun b q1 => ?_, fun b q1 => ?_⟩, ⟨by rw [List.length_set]; exact er.len, fun b o q1 => ?_, fun j d q1 => ?_, fun j es q1 => ?_, fun j ns q1 => ?_, fun j k es fs b q1 q2 q3 q4 => ?_⟩⟩, .lst upd_same (h3.mono sz)⟩
        · by_cases z : b = a
          · subst z; exact .inr (.inr ⟨i, ds, q, h⟩)
          · rw [upd_ne z] at q1; exact .inl q1
        · obtain ⟨j, es, z1, z2⟩ := q1
          exact .inl ⟨j, es, (bxo j es z1).2, z2⟩
        · by_cases z : b = a
          · subst z; rw [upd_same] at q1; rw [← q1]; exact h2
          · rw [upd_ne z] at q1; exact er.sub _ _ q1
        · rw [look] at q1
          by_cases z : i = j
          · subst z
            simp only [if_true, Option.some.injEq, Sl.fr.injEq] at q1
            subst q1
            exact ⟨_, h, .lst upd_same (h3.mono sz)⟩
          · simp only [z, if_false] at q1
            obtain ⟨v', y1, y2⟩ := er.fr j d q1
            exact ⟨v', y1, y2.mono sz⟩
        · obtain ⟨z, z1⟩ := bxo j es q1
          obtain ⟨b, ws, y1, y2, y3, y4⟩ := er.bx j es z1
          refine ⟨b, ws, y1, y2, y3.mono sz, ?_⟩
          rw [upd_ne]
          · exact y4
          · rintro rfl; exact z (er.ne _ _ _ _ _ q z1 h y1)
        · rw [look] at q1
          by_cases z : i = j
          · simp [z] at q1
          · simp only [z, if_false] at q1
            obtain ⟨b, y1, y2⟩ := er.scr j ns q1
            exact ⟨b, y1, sqL_mono sz y2⟩
        · exact er.ne j k es fs b (bxo j es q1).2 (bxo k fs q2).2 q3 q4
theorem fzs_post {K : PySem.W.Frag} {σ : St} {H : Hp} : ∀ {vs : List V} {rs : List Vl} {Z : Hp} {ρ ρ1 : Env} {ds : List D}, ER K Z H σ ρ → VLs K σ Z vs rs → fzs rs ρ = .ok ds ρ1 → ∃ Z1, Pst K Z H σ ρ Z1 H ρ1 ∧ RvA K Z1 vs ds
  | _, _, Z, _, _, _, er, .nil, e => by cases e; exact ⟨Z, .refl er, .nil⟩
  | _, _, Z, ρ, _, _, er, .cons (r := r) (rs := rs) h q, e => by
    unfold fzs at e
    cases e1 : r.fz ρ with
    | stuck => rw [e1] at e; cases e
    | exc x r' => rw [e1] at e; cases e
    | ok d ρ2 =>
      rw [e1] at e
      have e : ((fzs rs ρ2).bind fun ds ρ2 => Out.ok (d :: ds) ρ2) = .ok _ _ := e
      obtain ⟨Z1, p1, h1⟩ := fz_post er h e1
      cases e2 : fzs rs ρ2 with
      | stuck => rw [e2] at e; cases e
      | exc x r' => rw [e2] at e; cases e
      | ok ds' ρ3 =>
        rw [e2] at e
        cases e
        obtain ⟨Z2, p2, h2⟩ := fzs_post p1.er (q.mono p1.st.z) e2
        exact ⟨Z2, p1.trans p2, .cons (h1.mono p2.st.z) h2⟩
theorem fz_noexc {r : Vl} {ρ ρ1 : Env} {x : Exn} (h : r.fz ρ = .exc x ρ1) : False := by
  cases r with
  | fr d => cases h
  | ow d => cases h
  | bx i => unfold Vl.fz at h; simp only at h; split at h <;> cases h
theorem fzs_noexc : ∀ {rs : List Vl} {ρ ρ1 : Env} {x : Exn}, fzs rs ρ = .exc x ρ1 → False
  | [], _, _, _, h => by cases h
  | r :: rs, ρ, ρ1, x, h => by
    unfold fzs at h
    cases e1 : r.fz ρ with
    | stuck => rw [e1] at h; cases h
    | exc y r' => exact fz_noexc e1
    | ok d ρ2 =>
      rw [e1] at h
      have h : ((fzs rs ρ2).bind fun ds ρ2 => Out.ok (d :: ds) ρ2) = .exc _ _ := h
      cases e2 : fzs rs ρ2 with
      | stuck => rw [e2] at h; cases h
      | exc y r' => exact fzs_noexc e2
      | ok ds' ρ3 => rw [e2] at h; cases h
theorem Po.fzs {β : Type} {K : PySem.W.Frag} {Z H : Hp} {σ : St} {ρ : Env} {vs : List V} {rs : List Vl} {f : List D → Env → Out β} {R : β → Hp → Hp → Env → Prop} (er : ER K Z H σ ρ) (hv : VLs K σ Z vs rs) (h : Po K w Z H σ ρ ((fzs rs ρ).bind f) R) :
    ∃ ds Z1 ρ1, Pst K Z H σ ρ Z1 H ρ1 ∧ RvA K Z1 vs ds ∧ Po K w Z1 H σ ρ1 (f ds ρ1) R := by
  cases e : Wk.fzs rs ρ with
  | stuck => rw [e] at h; exact h.elim
  | exc x r => exact (fzs_noexc e).elim
  | ok ds ρ1 =>
    rw [e] at h
    obtain ⟨Z1, p, r⟩ := fzs_post er hv e
    exact ⟨ds, Z1, ρ1, p, r, Po.rebase (by exact h) p⟩
theorem Po.fz {β : Type} {K : PySem.W.Frag} {Z H : Hp} {σ : St} {ρ : Env} {v : V} {r : Vl} {f : D → Env → Out β} {R : β → Hp → Hp → Env → Prop} (er : ER K Z H σ ρ) (hv : VL K σ Z v r) (h : Po K w Z H σ ρ ((r.fz ρ).bind f) R) :
    ∃ d Z1 ρ1, Pst K Z H σ ρ Z1 H ρ1 ∧ Rv K Z1 v d ∧ Po K w Z1 H σ ρ1 (f d ρ1) R := by
  cases e : r.fz ρ with
  | stuck => rw [e] at h; exact h.elim
  | exc x r' => exact (fz_noexc e).elim
  | ok d ρ1 =>
    rw [e] at h
    obtain ⟨Z1, p, q⟩ := fz_post er hv e
    exact ⟨d, Z1, ρ1, p, q, Po.rebase (by exact h) p⟩
theorem xTup {es : List Expr} {x1 : Nat} {gr : Env → Out (List Vl)} (hr : PA X es (tA X.K w gr)) : PE X (.Tuple es x1 pos) (tE X.K w fun ρ => (gr ρ).bind fun vs ρ1 => (fzs vs ρ1).bind tupV) := by
  refine PE.imp (Kt.pe_tupN hr) fun σ H Q h => ?_
  obtain ⟨Z, ρ, er, h⟩ := h
  refine tA_then er h fun rs vs Z1 H1 ρ1 p1 v1 h1 => ?_
  obtain ⟨ds, Z2, ρ2, p2, r2, h2⟩ := h1.fzs p1.er v1
  unfold tupV at h2
  split at h2
  · rename_i hl
    exact ⟨by rw [r2.length, ← lim_eq]; exact hl, (h2.cont (p1.trans p2)).tup p2.er.sub r2⟩
  · exact h2.elim
theorem xLst {es : List Expr} {gr : Env → Out (List Vl)} (hr : PA X es (tA X.K w gr)) : PE X (.List es pos) (tE X.K w fun ρ => (gr ρ).bind fun vs ρ1 => (fzs vs ρ1).bind lstV) := by
  refine PE.imp (pe_lst hr) fun σ H Q h => ?_
  obtain ⟨Z, ρ, er, h⟩ := h
  refine tA_then er h fun rs vs Z1 H1 ρ1 p1 v1 h1 => ?_
  obtain ⟨ds, Z2, ρ2, p2, r2, h2⟩ := h1.fzs p1.er v1
  unfold lstV at h2
  split at h2
  · rename_i hl
    exact ⟨by rw [r2.length, ← lim_eq]; exact hl, (h2.cont (p1.trans p2)).lst p2.er.sub r2⟩
  · exact h2.elim
/-! built-ins -/
theorem xBi {f : Bf} {x : Str} {p : Pos} {es : List Expr} {gr : Env → Out (List Vl)} (hc : X.calm = true) (hu : X.A.units + 68 < cLine) (hg : Gl X x) (hm : X.mg x = none) (hv : bootBuiltins x = some (pyF f)) (hn : x ≠ "__name__") (hdb : (x == ("__debug__" : Str)) = false)
    (he : starEach (e :: es) X.env = (false, eval e X.env) :: starEach es X.env) (hpl : (backTo pos (starEach es X.env)).any (·.1) = false) (hr : PA X (e :: es) (tA X.K w gr)) :
    PE X (.Call (.Name x p) (e :: es) [] pos) (tE X.K w fun ρ => (gr ρ).bind (biV f)) := by
  have key : PE X (.Call (.Name x p) (e :: es) [] pos) (tCB (rBi X.K f) (tA X.K w gr)) := by
    have o := opF f hc hu
    cases f <;> first
      | exact pe_callB (by exact o) hg hm (by exact hv) hr hn hdb he hpl
      | exact pe_callTy (by exact o) hg hm (by exact hv) hr hn hdb he hpl
  refine PE.imp key fun σ H Q h => ?_
  obtain ⟨Z, ρ, er, h⟩ := h
  refine tA_then er h fun rs vs Z1 H1 ρ1 p1 v1 h1 => ?_
  unfold biV at h1
  split at h1
  · rename_i ds e1
    obtain ⟨res, e3, h3⟩ := h1.ofO
    exact ⟨Z1, ds, res, p1.er.sub, VLs.shA p1.er v1 e1, e3, h3.cont p1⟩
  · exact h1.elim
end
end Wk
end T_WkG
section T_WkH
set_option maxHeartbeats 4000000
namespace Wk
open PySem PySem.Spec PyProof.Rows L2
/-! ### slots written -/
theorem set_look {ρ : Env} {i : Nat} {s t : Sl} (h : ρ[i]? = some t) (j : Nat) : (ρ.set i s)[j]? = if i = j then some s else ρ[j]? := by
  have hi : i < ρ.length := by
    rcases Nat.lt_or_ge i ρ.length with z | z
    · exact z
    · rw [List.getElem?_eq_none z] at h; cases h
  rw [List.getElem?_set]
  by_cases z : i = j
  · subst z; simp [hi]
  · simp [z]
/-- the list that slot i holds is changed -/
theorem ER.mut {K : PySem.W.Frag} {Z H : Hp} {σ : St} {ρ : Env} {i : Nat} {a : Addr} {ds ds' : List D} {vs' : List V} (er : ER K Z H σ ρ) (hi : ρ[i]? = some (Sl.bx ds)) (ha : σ[i]? = some (some (V.ref a))) (hr : RvA K Z vs' ds') :
    Pst K Z H σ ρ Z (upd H a (.lst vs')) (ρ.set i (.bx ds')) := by
  obtain ⟨a', vs, h1, h2, h3, h4⟩ := er.bx i ds hi
  rw [ha] at h1; cases h1
  have look := set_look (s := .bx ds') hi
  have box : isBx σ ρ a := ⟨i, ds, hi, ha⟩
  have bxo : ∀ (j : Nat) (es : List D), (ρ.set i (.bx ds'))[j]? = some (Sl.bx es) → ∃ fs, ρ[j]? = some (Sl.bx fs) := fun j es z => by
    rw [look] at z
    by_cases y : i = j
    · subst y; exact ⟨ds, hi⟩
    · simp [y] at z; exact ⟨es, z⟩
  refine ⟨⟨.refl _, fun b o q1 q2 => ?_, fun b q => .inl q, fun b q => ?_⟩, ⟨by rw [List.length_set]; exact er.len, fun b o q => ?_, fun j d q => ?_, fun j es q => ?_, fun j ns q => ?_, fun j k es fs b q1 q2 q3 q4 => ?_⟩⟩
  · rw [upd_ne]
    · exact q1
    · rintro rfl; exact q2 box
  · obtain ⟨j, es, z1, z2⟩ := q
    obtain ⟨fs, z3⟩ := bxo j es z1
    exact .inl ⟨j, fs, z3, z2⟩
  · rw [upd_ne]
    · exact er.sub _ _ q
    · rintro rfl; rw [h4] at q; cases q
  · rw [look] at q
    by_cases y : i = j
    · simp [y] at q
    · simp [y] at q; exact er.fr j d q
  · rw [look] at q
    by_cases y : i = j
    · subst y
      simp only [if_true, Option.some.injEq, Sl.bx.injEq] at q
      subst q
      exact ⟨a, vs', ha, upd_same, hr, h4⟩
    · simp [y] at q
      obtain ⟨b, ws, y1, y2, y3, y4⟩ := er.bx j es q
      refine ⟨b, ws, y1, ?_, y3, y4⟩
      rw [upd_ne]
      · exact y2
      · rintro rfl; exact y (er.ne _ _ _ _ _ hi q ha y1)
  · rw [look] at q
    by_cases y : i = j
    · simp [y] at q
    · simp [y] at q; exact er.scr j ns q
  · obtain ⟨es', z1⟩ := bxo j es q1
    obtain ⟨fs', z2⟩ := bxo k fs q2
    exact er.ne j k es' fs' b z1 z2 q3 q4
theorem VL.box {K : PySem.W.Frag} {Z H : Hp} {σ : St} {ρ : Env} {i : Nat} {v : V} {ds : List D} (er : ER K Z H σ ρ) (h : VL K σ Z v (.bx i)) (hi : ρ[i]? = some (Sl.bx ds)) : ∃ a vs, v = .ref a ∧ σ[i]? = some (some (V.ref a)) ∧ H a = some (.lst vs) ∧ RvA K Z vs ds := by
  have h : σ[i]? = some (some v) := h
  obtain ⟨a, vs, h1, h2, h3, _⟩ := er.bx i ds hi
  rw [h] at h1; cases h1
  exact ⟨a, vs, rfl, h, h2, h3⟩
/-- an own list's name -/
noncomputable def evB (Φ : Fns) (i : Nat) (ρ : Env) : Out Vl := ev Φ (.var i) ρ
section
variable {X : Cx} {w : Wi} {a b c e o : Expr} {ga gb gc : Env → Out Vl} {pos : Pos} {rest : List Expr}
/-- what a method's rule asks: the list at x as it stands, the arguments -/
def rMe (K : PySem.W.Frag) (m : Me) : V → List V → Hp → VK → Prop := fun x xs H Q => ∃ Z a vs ds es r ds', x = .ref a ∧ H a = some (.lst vs) ∧ Same Z H ∧ RvA K Z vs ds ∧ RvA K Z xs es ∧
  methD m ds es = some (r, ds') ∧ ∀ v vs', Res K H Z H v r → RvA K Z vs' ds' → Q v (upd H a (.lst vs'))
def idM : Me → String
  | .append => "list.append" | .extend => "list.extend" | .pop => "list.pop" | .popAt => "list.pop" | .index => "list.index" | .join => "str.join"
def nameM : Me → String
  | .append => "append" | .extend => "extend" | .pop => "pop" | .popAt => "pop" | .index => "index" | .join => "join"
theorem opM (m : Me) : MtR X (idM m) (rMe X.K m) := by
  intro pins s σ H x xs v us Q I rx rs h
  obtain ⟨Z, a, vs, ds, es, r, ds', rfl, h1, sz, h2, h3, e, c⟩ := h
  unfold methD at e
  split at e
  · split at e
    · rename_i hl
      cases e
      cases h3 with | cons y1 y2 => ?_
      cases y2
      exact mt_append pins s σ H _ _ v us Q I rx rs ⟨_, _, _, rfl, rfl, h1, by rw [h2.length, ← lim_eq]; exact hl, c .non _ .non (h2.append (.cons y1 .nil))⟩
    · cases e
  · split at e
    · rename_i hl
      cases e
      cases h3 with | cons y1 y2 => ?_
      cases y2
      cases y1 with | lst z1 z2 => ?_
      exact mt_extend pins s σ H _ _ v us Q I rx rs ⟨_, _, _, _, rfl, rfl, h1, sz _ _ z1, by rw [h2.length, z2.length, ← lim_eq]; exact hl, c .non _ .non (h2.append z2)⟩
    · cases e
  · split at e
    · rename_i d hd
      cases e
      cases h3
      obtain ⟨y, hy, ry⟩ := h2.get hd
      exact mt_pop pins s σ H _ _ v us Q I rx rs ⟨_, _, _, rfl, rfl, h1, by rw [h2.length]; exact hy, c _ _ ry h2.dropLast⟩
    · cases e
  · split at e
    · rename_i k hk
      split at e
      · rename_i d hd
        cases e
        cases h3 with | cons y1 y2 => ?_
        cases y2
        cases y1
        obtain ⟨y, hy, ry⟩ := h2.get hd
        have hlt : k.toNat < vs.length := by
          rcases Nat.lt_or_ge k.toNat vs.length with z | z
          · exact z
          · rw [List.getElem?_eq_none z] at hy; cases hy
        exact mt_popAt pins s σ H _ _ v us Q I rx rs ⟨_, _, _, _, _, rfl, rfl, h1, by omega, by omega, seqIndex_of hk.1 (by omega), hy, c _ _ ry (h2.eraseIdx _)⟩
      · cases e
    · cases e
  · cases e
theorem slotM (m : Me) (hm : m = .append ∨ m = .extend ∨ m = .pop ∨ m = .popAt) : Slot "list" (nameM m) (idM m) ∧ typeOf (.builtin (idM m)) = pure (.type "method_descriptor") := by
  rcases hm with rfl | rfl | rfl | rfl
  · exact ⟨PySem.F.slot_list_append, PySem.F.type_list_append⟩
  · exact ⟨PySem.F.slot_list_extend, PySem.F.type_list_extend⟩
  · exact ⟨PySem.F.slot_list_pop, PySem.F.type_list_pop⟩
  · exact ⟨PySem.F.slot_list_pop, PySem.F.type_list_pop⟩
end
/-- an own list's method, behind its arguments -/
theorem meth_post {K : PySem.W.Frag} {w : Wi} {Z H Z0 H0 : Hp} {σ : St} {ρ ρ0 : Env} {m : Me} {i : Nat} {x : V} {vs : List V} {rs : List Vl} {Q : VK} (p : Pst K Z0 H0 σ ρ0 Z H ρ) (hx : VL K σ Z x (.bx i)) (hv : VLs K σ Z vs rs)
    (h : Po K w Z H σ ρ ((fzs rs ρ).bind fun ds ρ2 => methV m i ds ρ2) fun r Z' H' ρ' => ∀ v, VR K H0 σ ρ0 Z' H' ρ' v r → Q v H') : rMe K m x vs H Q := by
  obtain ⟨es, Z1, ρ1, p1, r1, h1⟩ := h.fzs p.er hv
  unfold methV at h1
  split at h1
  · rename_i ds e1
    split at h1
    · rename_i r ds' e2
      obtain ⟨a, ws, rfl, ha, hH, hr⟩ := VL.box p1.er (hx.mono p1.st.z) e1
      refine ⟨Z1, a, ws, ds, es, r, ds', rfl, hH, p1.er.sub, hr, r1, e2, fun v vs' q1 q2 => ?_⟩
      have p2 := p1.er.mut e1 ha q2
      refine h1 Z1 _ p2 v ?_
      cases r with
      | fr d => exact q1
      | bx j => exact q1.elim
      | ow d =>
        exfalso
        unfold methD at e2
        split at e2 <;> (try split at e2) <;> (try split at e2) <;> first | (cases e2; done) | cases e2
    · exact h1.elim
  · exact h1.elim
section
variable {X : Cx} {w : Wi} {a b c e o : Expr} {ga gb gc : Env → Out Vl} {pos : Pos} {rest : List Expr}
theorem box_ty {K : PySem.W.Frag} {a : Addr} {vs : List V} {H : Hp} (h : H a = some (.lst vs)) : tyV K "list" (.ref a) H := Or.inl ⟨rfl, _, Or.inl (Or.inl h)⟩
/-- x.m(e, ..), x an own list -/
theorem xMeth {m : Me} {i : Nat} {x : Str} {p apos cpos : Pos} {es : List Expr} {gr : Env → Out (List Vl)} (hm : m = .append ∨ m = .extend ∨ m = .pop ∨ m = .popAt)
    (hN : X.N[i]? = some x) (hv : Vis X.env.scope x) (hd : (x == ("__debug__" : Str)) = false) (hcd : (x == ("__classdict__" : Str)) = false)
    (hfew : ((backTo cpos (starEach (e :: es) X.env)).all (fun x => !x.1) && (backToKw cpos (keywordEach [] X.env)).all (fun x => x.1.isSome)
      && decide ((e :: es).length + ([] : List Keyword).length + (if ([] : List Keyword).isEmpty then 0 else 1) < 30)) = true)
    (hline : (apos.endLine == cpos.line) = true) (hs : starEach (e :: es) X.env = (false, eval e X.env) :: starEach es X.env) (hplain : (backTo cpos (starEach es X.env)).any (·.1) = false)
    (hr : PA X (e :: es) (tA X.K w gr)) :
    PE X (.Call (.Attribute (.Name x p) (nameM m) apos) (e :: es) [] cpos) (tE X.K w fun ρ => match ρ[i]? with
      | some (.bx _) => (gr ρ).bind fun vs ρ1 => (fzs vs ρ1).bind fun ds ρ2 => methV m i ds ρ2
      | _ => .stuck) := by
  refine PE.imp (pe_bm PySem.F.plainAttrs_list (slotM m hm).1 (slotM m hm).2 (opM m) (pe_var (i := i) hN hv hd hcd) hr rfl hfew hline hs hplain) fun σ H Q h => ?_
  obtain ⟨Z, ρ, er, h⟩ := h
  dsimp only at h
  split at h
  · rename_i ds e1
    obtain ⟨a, vs, h1, h2, h3, h4⟩ := er.bx i ds e1
    refine ⟨_, h1, box_ty h2, ?_⟩
    refine tA_then er h fun rs vs Z1 H1 ρ1 p1 v1 hh => ?_
    exact meth_post p1 (show VL X.K σ Z1 (V.ref a) (.bx i) from h1) v1 hh
  · exact h.elim
theorem xMeth0 {m : Me} {i : Nat} {x : Str} {p apos cpos : Pos} (hm : m = .append ∨ m = .extend ∨ m = .pop ∨ m = .popAt)
    (hN : X.N[i]? = some x) (hv : Vis X.env.scope x) (hd : (x == ("__debug__" : Str)) = false) (hcd : (x == ("__classdict__" : Str)) = false)
    (hline : (apos.endLine == cpos.line) = true) :
    PE X (.Call (.Attribute (.Name x p) (nameM m) apos) [] [] cpos) (tE X.K w fun ρ => match ρ[i]? with
      | some (.bx _) => methV m i [] ρ
      | _ => .stuck) := by
  refine PE.imp (pe_bm0 PySem.F.plainAttrs_list (slotM m hm).1 (slotM m hm).2 (opM m) (pe_var (i := i) hN hv hd hcd) rfl hline) fun σ H Q h => ?_
  obtain ⟨Z, ρ, er, h⟩ := h
  dsimp only at h
  split at h
  · rename_i ds e1
    obtain ⟨a, vs, h1, h2, h3, h4⟩ := er.bx i ds e1
    refine ⟨_, h1, box_ty h2, ?_⟩
    exact meth_post (rs := []) (.refl er) (show VL X.K σ Z (V.ref a) (.bx i) from h1) .nil (by unfold fzs; exact h)
  · exact h.elim
/-! a.index(b) -/
def idRk : Rk → String × String
  | .l => ("list", "list.index")
  | .t => ("tuple", "tuple.index")
def rIdx (K : PySem.W.Frag) (k : Rk) : V → List V → Hp → VK → Prop := fun x xs H Q => ∃ dx dy y j, xs = [y] ∧ Rv K H x dx ∧ Rv K H y dy ∧ idxD k dx dy = some (.fr (.int j)) ∧ Q (.int j) H
theorem findIdx_ok {α : Type} {p : α → Bool} : ∀ {ds : List α} {j : Nat}, ds.findIdx? p = some j → ∃ z, ds[j]? = some z ∧ p z = true ∧ ∀ (m : Nat) (z' : α), m < j → ds[m]? = some z' → p z' = false
  | [], j, h => by cases h
  | d :: ds, j, h => by
    rw [List.findIdx?_cons] at h
    by_cases q : p d = true
    · rw [if_pos q] at h
      cases h
      exact ⟨d, rfl, q, fun m z' hm => by omega⟩
    · rw [if_neg q] at h
      obtain ⟨i, h1, rfl⟩ := Option.map_eq_some_iff.mp h
      obtain ⟨z, q1, q2, q3⟩ := findIdx_ok h1
      refine ⟨z, q1, q2, fun m z' hm hz => ?_⟩
      cases m with
      | zero => cases hz; simpa using q
      | succ m => exact q3 m z' (by omega) hz
theorem idxD_int {k : Rk} {a d : D} {r : Vl} (h : idxD k a d = some r) : ∃ j : Int, r = .fr (.int j) := by
  unfold idxD at h
  split at h
  · split at h
    · obtain ⟨i, _, e⟩ := Option.map_eq_some_iff.mp h
      exact ⟨_, e.symm⟩
    · cases h
  · split at h
    · obtain ⟨i, _, e⟩ := Option.map_eq_some_iff.mp h
      exact ⟨_, e.symm⟩
    · cases h
  · cases h
theorem tup_ty {K : PySem.W.Frag} {a : Addr} {vs : List V} {H : Hp} (h : Kt.TpN H a vs) : Kt.tyN K "tuple" (.ref a) H := let ⟨o, e, q⟩ := h; .inr ⟨rfl, a, vs, o, rfl, e, q⟩
theorem opIdx (hu : X.A.units + 65 < cLine) (k : Rk) : MtR X (idRk k).2 (rIdx X.K k) := by
  intro pins s σ H x xs v us Q I rx rs h
  obtain ⟨dx, dy, y, j, rfl, h1, h2, e, q⟩ := h
  cases k with
  | l =>
    unfold idxD at e
    split at e
    · split at e
      · rename_i hm
        unfold idxL at e
        obtain ⟨i, e1, e2⟩ := Option.map_eq_some_iff.mp e
        obtain ⟨rfl⟩ : ((i : Nat) : Int) = j := by injection e2 with e2; injection e2
        obtain ⟨z, q1, q2, q3⟩ := findIdx_ok e1
        obtain ⟨a, rfl⟩ : ∃ a, x = V.ref a := by cases h1 with | lst q1 q2 => exact ⟨_, rfl⟩
        exact mt_indexD hu pins s σ H _ _ v us Q I rx rs ⟨a, y, dy, _, i, z, rfl, rfl, h1.dp, h2.dp, hm.1, hm.2, q1, q2, q3, q⟩
      · cases e
    · rename_i h; cases h
    · cases e
  | t =>
    unfold idxD at e
    split at e
    · rename_i h; cases h
    · split at e
      · rename_i hm
        unfold idxL at e
        obtain ⟨i, e1, e2⟩ := Option.map_eq_some_iff.mp e
        obtain ⟨rfl⟩ : ((i : Nat) : Int) = j := by injection e2 with e2; injection e2
        obtain ⟨z, q1, q2, q3⟩ := findIdx_ok e1
        obtain ⟨a, rfl⟩ : ∃ a, x = V.ref a := by cases h1 with | tup q1 q2 => exact ⟨_, rfl⟩
        exact Kt.mt_indexT hu pins s σ H _ _ v us Q I rx rs ⟨a, y, dy, _, i, z, rfl, rfl, h1.dp, h2.dp, hm.1, hm.2, q1, q2, q3, q⟩
      · cases e
    · cases e
theorem rk_ok (hu : X.A.units + 65 < cLine) : ∀ T id, (∃ k, (T, id) = idRk k) → Kt.BmOk X "index" T id (fun x xs H Q => ∃ k, id = (idRk k).2 ∧ rIdx X.K k x xs H Q) := by
  rintro T id ⟨k, e⟩
  have hm : MtR X (idRk k).2 (fun x xs H Q => ∃ k', (idRk k).2 = (idRk k').2 ∧ rIdx X.K k' x xs H Q) := by
    intro pins s σ H x xs v us Q I rx rs ⟨k', e', h⟩
    have : k' = k := by cases k <;> cases k' <;> first | rfl | (revert e'; decide)
    subst this
    exact opIdx hu k' pins s σ H x xs v us Q I rx rs h
  cases k with
  | l => cases e; exact ⟨PySem.F.plainAttrs_list, PySem.F.slot_list_index, PySem.F.type_list_index, hm⟩
  | t => cases e; exact ⟨PySem.F.plainAttrs_tuple, PySem.F.slot_tuple_index, PySem.F.type_tuple_index, hm⟩
theorem xIdx {apos cpos : Pos} (hu : X.A.units + 65 < cLine) (ha : PE X a (tE X.K w ga)) (hb : PE X b (tE X.K w gb)) (hbase : attributeBase a "index" X.env (eval a X.env) = eval a X.env)
    (hfew : ((backTo cpos (starEach [b] X.env)).all (fun x => !x.1) && (backToKw cpos (keywordEach [] X.env)).all (fun x => x.1.isSome)
      && decide ([b].length + ([] : List Keyword).length + (if ([] : List Keyword).isEmpty then 0 else 1) < 30)) = true)
    (hline : (apos.endLine == cpos.line) = true) (hs : starEach [b] X.env = (false, eval b X.env) :: starEach [] X.env) (hplain : (backTo cpos (starEach [] X.env)).any (·.1) = false) :
    PE X (.Call (.Attribute a "index" apos) [b] [] cpos) (tE X.K w fun ρ => (ga ρ).bind fun v ρ1 => match kindV v ρ1 with
      | some k => (gb ρ1).bind fun u ρ2 => two (idxD k) v u ρ2
      | none => .stuck) := by
  refine PE.imp (Kt.pe_bmx (M := fun T id => ∃ k, (T, id) = idRk k) (r := fun id x xs H Q => ∃ k, id = (idRk k).2 ∧ rIdx X.K k x xs H Q) (rk_ok hu) ha (xCons (gr := fun ρ => .ok [] ρ) hs hb xNil) hbase hfew hline hs hplain) fun σ H Q h => ?_
  obtain ⟨Z, ρ, er, h⟩ := h
  refine tE_then er h fun r v Z1 H1 ρ1 p1 v1 h1 => ?_
  split at h1
  · rename_i k hk
    have hk' : ∃ T id, (T, id) = idRk k ∧ Kt.tyN X.K T v H1 := by
      unfold kindV at hk
      split at hk
      · rename_i ds e
        cases hk
        obtain ⟨a, vs, rfl, q, _⟩ := p1.er.sh v1 e
        exact ⟨_, _, rfl, .inl (box_ty q)⟩
      · rename_i ds e
        cases hk
        have := p1.er.sh v1 e
        cases this with | tup sx ax => ?_
        exact ⟨_, _, rfl, tup_ty (tpN_mono p1.er.sub sx)⟩
      · cases hk
    obtain ⟨T, id, e, ty⟩ := hk'
    refine ⟨T, id, ⟨k, e⟩, ty, ?_⟩
    have ei : id = (idRk k).2 := by rw [← e]
    have h1' : Po X.K w Z1 H1 σ ρ1 (((gb ρ1).bind fun v ρ1 => (Out.ok [] ρ1).bind fun vs ρ2 => .ok (v.lay :: vs) ρ2).bind fun rs ρ2 => match rs with
        | [u] => two (idxD k) r u ρ2
        | _ => .stuck) fun r' Z' H' ρ' => ∀ v', VR X.K H σ ρ Z' H' ρ' v' r' → Q v' H' := by
      rw [Out.assoc]
      refine Eq.mp (congrArg (fun f => Po X.K w Z1 H1 σ ρ1 ((gb ρ1).bind f) fun r' Z' H' ρ' => ∀ v', VR X.K H σ ρ Z' H' ρ' v' r' → Q v' H') ?_) h1
      funext u ρ2
      show two (idxD k) r u ρ2 = two (idxD k) r u.lay ρ2
      unfold two
      rw [lay_lay]
    refine tA_then (w := w) (g := fun ρ => (gb ρ).bind fun v ρ1 => (Out.ok [] ρ1).bind fun vs ρ2 => .ok (v.lay :: vs) ρ2) (f := fun rs ρ2 => match rs with
        | [u] => two (idxD k) r u ρ2
        | _ => .stuck) (R := fun r' Z' H' ρ' => ∀ v', VR X.K H σ ρ Z' H' ρ' v' r' → Q v' H') (Q := fun xs H2 => ∃ k, id = (idRk k).2 ∧ rIdx X.K k v xs H2 Q) p1.er h1' fun rs vs Z2 H2 ρ2 p2 v2 h2 => ?_
    · cases v2 with
      | nil => exact h2.elim
      | cons y1 y2 =>
        cases y2 with
        | cons _ _ => exact h2.elim
        | nil =>
          obtain ⟨x, y, res, e1, e2, e3, h3⟩ := two_post h2
          obtain ⟨j, rfl⟩ := idxD_int e3
          have y1' := VL.lay_self y1
          exact ⟨k, ei, x, y, _, j, rfl, (p2.er.sh (v1.mono p2.st.z) e1).rv p2.er.sub, (p2.er.sh y1' e2).rv p2.er.sub, e3, (h3.cont (p1.trans p2)).now p2.er.sub (.int j)⟩
  · exact h1.elim
/-! isinstance -/
theorem xIsi1 {k : Ty} {p p2 : Pos} (hg : Gl X "isinstance") (hm : X.mg "isinstance" = none) (hg2 : Gl X (pyT k)) (hm2 : X.mg (pyT k) = none) (hs : starEach (a :: [Expr.Name (pyT k) p2]) X.env = (false, eval a X.env) :: starEach [Expr.Name (pyT k) p2] X.env)
    (ha : PE X a (tE X.K w ga)) : PE X (.Call (.Name "isinstance" p) [a, .Name (pyT k) p2] [] pos) (tE X.K w fun ρ => (ga ρ).bind (isiV [k])) := by
  have hty : PE X (.Name (pyT k) p2) (tC (.ty (pyT k))) := by
    cases k <;> exact pe_bltn hg2 hm2 (by decide +kernel) rfl (by decide) (by decide)
  refine PE.imp (pe_callB call_isi hg hm (by decide +kernel) (pa_cons ha (pa_cons hty pa_nil) hs) (by decide) (by decide) hs (by rfl)) fun σ H Q h => ?_
  obtain ⟨Z, ρ, er, h⟩ := h
  refine tE_then er h fun r v Z1 H1 ρ1 p1 v1 h1 => ?_
  unfold isiV at h1
  split at h1
  · rename_i d e1
    split at h1
    · rename_i hn
      refine ⟨v, .ty (pyT k), _, _, isTy k d, rfl, .ty _, tyX_of p1.er.sub (p1.er.sh v1 e1) hn, kit_ty (kitD d k hn), ?_⟩
      have e2 : ([k].any fun k => isTy k d) = isTy k d := by simp
      rw [e2] at h1
      exact h1.ok_now p1.er _ (.bl _)
    · exact h1.elim
  · exact h1.elim
theorem xIsi2 {k l : Ty} {p p2 p3 p4 : Pos} {x1 : Nat} (hg : Gl X "isinstance") (hm : X.mg "isinstance" = none) (hg2 : Gl X (pyT k)) (hm2 : X.mg (pyT k) = none) (hg3 : Gl X (pyT l)) (hm3 : X.mg (pyT l) = none)
    (hs : starEach (a :: [Expr.Tuple [.Name (pyT k) p2, .Name (pyT l) p3] x1 p4]) X.env = (false, eval a X.env) :: starEach [Expr.Tuple [.Name (pyT k) p2, .Name (pyT l) p3] x1 p4] X.env)
    (ha : PE X a (tE X.K w ga)) : PE X (.Call (.Name "isinstance" p) [a, .Tuple [.Name (pyT k) p2, .Name (pyT l) p3] x1 p4] [] pos) (tE X.K w fun ρ => (ga ρ).bind (isiV [k, l])) := by
  have ht : ∀ (k : Ty) (p2 : Pos), Gl X (pyT k) → X.mg (pyT k) = none → PE X (.Name (pyT k) p2) (tC (.ty (pyT k))) := by
    intro k p2 g m
    cases k <;> exact pe_bltn g m (by decide +kernel) rfl (by decide) (by decide)
  refine PE.imp (pe_callB call_isiT hg hm (by decide +kernel) (pa_cons ha (pa_cons (pe_tup (pa_cons (ht k p2 hg2 hm2) (pa_cons (ht l p3 hg3 hm3) pa_nil))) pa_nil) hs) (by decide) (by decide) hs (by rfl)) fun σ H Q h => ?_
  obtain ⟨Z, ρ, er, h⟩ := h
  refine tE_then er h fun r v Z1 H1 ρ1 p1 v1 h1 => ?_
  unfold isiV at h1
  split at h1
  · rename_i d e1
    split at h1
    · rename_i hn
      refine ⟨by show 2 ≤ sizeLine; decide, fun q hq => ?_⟩
      have ex : Ext Z1 H1 Z1 (upd H1 q (.tup [.ty (pyT k), .ty (pyT l)])) := .lst p1.er.sub hq _
      refine ⟨v, q, [.ty (pyT k), .ty (pyT l)], .type (tyN d), [.type (pyT k), .type (pyT l)], (isTy k d || isTy l d), rfl, upd_same, .cons (.ty _) (.cons (.ty _) .nil), tyX_of ex.s ((p1.er.ext ex).sh v1 e1) hn, ?_, ?_⟩
      · refine kitAny_cons (kit_ty (kitD d k hn)) (fun e => ?_) fun e => by rw [e]; rfl
        rw [e, Bool.false_or]
        refine kitAny_cons (kit_ty (kitD d l hn)) (fun e => ?_) fun e => e
        rw [e]; exact kitAny_nil
      · have e2 : ([k, l].any fun k => isTy k d) = (isTy k d || isTy l d) := by simp
        rw [e2] at h1
        exact h1 Z1 _ ((Pst.refl p1.er).ext ex) _ (.bl _)
    · exact h1.elim
  · exact h1.elim
end
end Wk
end T_WkH
section T_WkI
set_option maxHeartbeats 4000000
namespace Wk
open PySem PySem.Spec PyProof.Rows L2 RZ
theorem SqL.inj' {K : PySem.W.Frag} {H : Hp} {a : Addr} {xs ys : List V} (h : H a = some (.lst xs)) (ha : SqL K H a ys) (hK : K.lookup a = none) : xs = ys := by
  rcases ha with (q | ⟨o, q⟩) | ⟨o, its, n, q, _⟩
  · rw [h] at q; cases q; rfl
  · rw [h] at q; cases q
  · rw [hK] at q; cases q
/-- data at a value; for a row of targets (b) the outer tuple may be any -/
def RvQ (K : PySem.W.Frag) (b : Bool) (Z : Hp) (v : V) (d : D) : Prop := Rv K Z v d ∨ (b = true ∧ ∃ (a : Addr) (vs : List V) (ds : List D), v = .ref a ∧ d = .tuple ds ∧ SqT K Z a vs ∧ RvA K Z vs ds)
/-- what an iterator gives, in data -/
structure ItR (K : PySem.W.Frag) (b : Bool) (J : It) (Z : Hp) (ds : List D) : Prop where
  go : ∀ (i : Nat) (H : Hp), Same Z H → i < ds.length → J.go i H
  yl : ∀ (i : Nat) (Z' H : Hp) (x : V) (H' : Hp), Same Z Z' → Same Z' H → i < ds.length → J.yld i H x H' → ∃ Z2 d, Ext Z' H Z2 H' ∧ ds[i]? = some d ∧ RvQ K b Z2 x d
  st : ∀ (i : Nat) (H : Hp), Same Z H → ds.length ≤ i → J.stop i H
section
variable {K : PySem.W.Frag} {tp : Bool} {Z : Hp} {a b : Addr} {vs ws : List V} {ds es : List D}
theorem get_lt {α : Type} {l : List α} {i : Nat} (h : i < l.length) : ∃ d, l[i]? = some d := ⟨_, List.getElem?_eq_getElem h⟩
theorem itr_list (h : Z a = some (.lst vs)) (r : RvA K Z vs ds) : ItR K tp (Itl K a) Z ds where
  go := fun i H s hi => by
    obtain ⟨d, hd⟩ := get_lt hi
    obtain ⟨v, hv, _⟩ := r.get hd
    exact ⟨vs, v, .of (s _ _ h), hv⟩
  yl := fun i Z' H x H' s s' hi y => by
    obtain ⟨d, hd⟩ := get_lt hi
    obtain ⟨v, hv, hr⟩ := r.get hd
    obtain ⟨rfl, y⟩ := y
    have := y vs (.of (s' _ _ (s _ _ h)))
    rw [hv] at this; cases this
    exact ⟨Z', d, .refl s', hd, .inl (hr.mono s)⟩
  st := fun i H s hi => ⟨vs, .of (s _ _ h), by rw [r.length]; exact hi⟩
theorem itr_tup (h : SqT K Z a vs) (r : RvA K Z vs ds) : ItR K tp (Itt K a) Z ds where
  go := fun i H s hi => by
    obtain ⟨d, hd⟩ := get_lt hi
    obtain ⟨v, hv, _⟩ := r.get hd
    exact ⟨vs, v, sqT_mono s h, hv⟩
  yl := fun i Z' H x H' s s' hi y => by
    obtain ⟨d, hd⟩ := get_lt hi
    obtain ⟨v, hv, hr⟩ := r.get hd
    obtain ⟨rfl, y⟩ := y
    have := y vs (sqT_mono s' (sqT_mono s h))
    rw [hv] at this; cases this
    exact ⟨Z', d, .refl s', hd, .inl (hr.mono s)⟩
  st := fun i H s hi => ⟨vs, sqT_mono s h, by rw [r.length]; exact hi⟩
theorem itr_rng (lo : Int) (n : Nat) : ItR K tp (Itr lo n) Z ((List.range n).map fun (k : Nat) => .int (lo + (k : Int))) where
  go := fun i H s hi => by
    have h : i < n := by simpa using hi
    exact h
  yl := fun i Z' H x H' s s' hi y => by
    obtain ⟨rfl, rfl⟩ := y
    have hi : i < n := by simpa using hi
    exact ⟨Z', .int (lo + i), .refl s', by rw [List.getElem?_map, List.getElem?_range hi]; rfl, .inl (.int _)⟩
  st := fun i H s hi => by
    have h : n ≤ i := by simpa using hi
    exact h
theorem itr_str (z : Str) : ItR K tp (Its z) Z (z.cps.toList.map fun c => .str ⟨#[c]⟩) where
  go := fun i H s hi => by
    have h : i < z.cps.size := by simpa using hi
    exact h
  yl := fun i Z' H x H' s s' hi y => by
    obtain ⟨rfl, c, hc, rfl⟩ := y
    exact ⟨Z', .str ⟨#[c]⟩, .refl s', by rw [List.getElem?_map, Array.getElem?_toList, hc]; rfl, .inl (.str _)⟩
  st := fun i H s hi => by
    have h : z.cps.size ≤ i := by simpa using hi
    exact h
theorem enumD_len : (enumD ds).length = ds.length := by simp [enumD]
theorem enumD_get {i : Nat} {d : D} (h : ds[i]? = some d) : (enumD ds)[i]? = some (.tuple [.int (i : Int), d]) := by
  have hi : i < ds.length := by
    rcases Nat.lt_or_ge i ds.length with z | z
    · exact z
    · rw [List.getElem?_eq_none z] at h; cases h
  unfold enumD
  rw [List.getElem?_zipWith, List.getElem?_range hi, h]
theorem ext_pair {Z' H : Hp} {T : Addr} {x y : V} {d e : D} (s : Same Z' H) (hT : H T = none) (hx : Rv K Z' x d) (hy : Rv K Z' y e) : Ext Z' H (upd Z' T (.tup [x, y])) (upd H T (.tup [x, y])) ∧ (∃ (a : Addr) (vs : List V) (ds : List D), V.ref T = .ref a ∧ PyData.tuple [d, e] = .tuple ds ∧ SqT K (upd Z' T (.tup [x, y])) a vs ∧ RvA K (upd Z' T (.tup [x, y])) vs ds) := by
  have n := same_new (o := .tup [x, y]) (none_sub s hT)
  exact ⟨.tup s hT _, T, _, _, rfl, rfl, .of upd_same, .cons (hx.mono n) (.cons (hy.mono n) .nil)⟩
theorem itr_enum (h : Z a = some (.lst vs)) (r : RvA K Z vs ds) : ItR K true (Ite K a) Z (enumD ds) where
  go := fun i H s hi => by
    rw [enumD_len] at hi
    obtain ⟨d, hd⟩ := get_lt hi
    obtain ⟨v, hv, _⟩ := r.get hd
    exact ⟨vs, v, .of (s _ _ h), hv⟩
  yl := fun i Z' H x H' s s' hi y => by
    rw [enumD_len] at hi
    obtain ⟨d, hd⟩ := get_lt hi
    obtain ⟨v, hv, hr⟩ := r.get hd
    obtain ⟨T, x', rfl, hT, rfl, y⟩ := y
    have := y vs (.of (s' _ _ (s _ _ h)))
    rw [hv] at this; cases this
    obtain ⟨q1, q2⟩ := ext_pair s' hT (.int (i : Int)) (hr.mono s)
    exact ⟨_, _, q1, enumD_get hd, .inr ⟨rfl, q2⟩⟩
  st := fun i H s hi => by
    rw [enumD_len] at hi
    exact ⟨vs, .of (s _ _ h), by rw [r.length]; exact hi⟩
theorem itr_enumT (h : SqT K Z a vs) (r : RvA K Z vs ds) : ItR K true (Kt.IteT K a) Z (enumD ds) where
  go := fun i H s hi => by
    rw [enumD_len] at hi
    obtain ⟨d, hd⟩ := get_lt hi
    obtain ⟨v, hv, _⟩ := r.get hd
    exact ⟨vs, v, sqT_mono s h, hv⟩
  yl := fun i Z' H x H' s s' hi y => by
    rw [enumD_len] at hi
    obtain ⟨d, hd⟩ := get_lt hi
    obtain ⟨v, hv, hr⟩ := r.get hd
    obtain ⟨T, x', rfl, hT, rfl, y⟩ := y
    have := y vs (sqT_mono s' (sqT_mono s h))
    rw [hv] at this; cases this
    obtain ⟨q1, q2⟩ := ext_pair s' hT (.int (i : Int)) (hr.mono s)
    exact ⟨_, _, q1, enumD_get hd, .inr ⟨rfl, q2⟩⟩
  st := fun i H s hi => by
    rw [enumD_len] at hi
    exact ⟨vs, sqT_mono s h, by rw [r.length]; exact hi⟩
theorem zip_get {i : Nat} {d e : D} (h : ds[i]? = some d) (h' : es[i]? = some e) : (ds.zipWith (fun x y => PyData.tuple [x, y]) es)[i]? = some (.tuple [d, e]) := by
  rw [List.getElem?_zipWith, h, h']
theorem zip_lt {i : Nat} (hi : i < (ds.zipWith (fun x y => PyData.tuple [x, y]) es).length) : i < ds.length ∧ i < es.length := by
  rw [List.length_zipWith] at hi; omega
theorem itr_zipL (h : Z a = some (.lst vs)) (r : RvA K Z vs ds) (h' : Z b = some (.lst ws)) (r' : RvA K Z ws es) : ItR K true (Itz K a b) Z (ds.zipWith (fun x y => .tuple [x, y]) es) where
  go := fun i H s hi => by
    obtain ⟨h1, h2⟩ := zip_lt hi
    obtain ⟨d, hd⟩ := get_lt h1
    obtain ⟨e, he⟩ := get_lt h2
    obtain ⟨v, hv, _⟩ := r.get hd
    obtain ⟨u, hu, _⟩ := r'.get he
    exact ⟨vs, ws, v, u, .of (s _ _ h), .of (s _ _ h'), hv, hu⟩
  yl := fun i Z' H x H' s s' hi y => by
    obtain ⟨h1, h2⟩ := zip_lt hi
    obtain ⟨d, hd⟩ := get_lt h1
    obtain ⟨e, he⟩ := get_lt h2
    obtain ⟨v, hv, hr⟩ := r.get hd
    obtain ⟨u, hu, hr'⟩ := r'.get he
    obtain ⟨T, x', y', rfl, hT, rfl, y1, y2⟩ := y
    have q1 := y1 vs (.of (s' _ _ (s _ _ h)))
    have q2 := y2 ws (.of (s' _ _ (s _ _ h')))
    rw [hv] at q1; cases q1
    rw [hu] at q2; cases q2
    obtain ⟨q1, q2⟩ := ext_pair s' hT (hr.mono s) (hr'.mono s)
    exact ⟨_, _, q1, zip_get hd he, .inr ⟨rfl, q2⟩⟩
  st := fun i H s hi => by
    rw [List.length_zipWith] at hi
    exact ⟨vs, ws, .of (s _ _ h), .of (s _ _ h'), by rw [r.length, r'.length]; omega⟩
theorem itr_zipT (h : SqT K Z a vs) (r : RvA K Z vs ds) (h' : SqT K Z b ws) (r' : RvA K Z ws es) : ItR K true (ItzT K a b) Z (ds.zipWith (fun x y => .tuple [x, y]) es) where
  go := fun i H s hi => by
    obtain ⟨h1, h2⟩ := zip_lt hi
    obtain ⟨d, hd⟩ := get_lt h1
    obtain ⟨e, he⟩ := get_lt h2
    obtain ⟨v, hv, _⟩ := r.get hd
    obtain ⟨u, hu, _⟩ := r'.get he
    exact ⟨vs, ws, v, u, sqT_mono s h, sqT_mono s h', hv, hu⟩
  yl := fun i Z' H x H' s s' hi y => by
    obtain ⟨h1, h2⟩ := zip_lt hi
    obtain ⟨d, hd⟩ := get_lt h1
    obtain ⟨e, he⟩ := get_lt h2
    obtain ⟨v, hv, hr⟩ := r.get hd
    obtain ⟨u, hu, hr'⟩ := r'.get he
    obtain ⟨T, x', y', rfl, hT, rfl, y1, y2⟩ := y
    have q1 := y1 vs (sqT_mono s' (sqT_mono s h))
    have q2 := y2 ws (sqT_mono s' (sqT_mono s h'))
    rw [hv] at q1; cases q1
    rw [hu] at q2; cases q2
    obtain ⟨q1, q2⟩ := ext_pair s' hT (hr.mono s) (hr'.mono s)
    exact ⟨_, _, q1, zip_get hd he, .inr ⟨rfl, q2⟩⟩
  st := fun i H s hi => by
    rw [List.length_zipWith] at hi
    exact ⟨vs, ws, sqT_mono s h, sqT_mono s h', by rw [r.length, r'.length]; omega⟩
end
def tI (K : PySem.W.Frag) (w : Wi) (b : Bool) (g : Env → Out (List D)) : TI := fun σ H R => ∃ Z ρ, ER K Z H σ ρ ∧ Po K w Z H σ ρ (g ρ) fun ds Z' H' _ => ∀ J, ItR K b J Z' ds → R J H'
section
variable {X : Cx} {w : Wi} {tp : Bool} {a b c e tg : Expr} {ga gb gc : Env → Out Vl} {pos : Pos} {rest : List Expr}
theorem PI.imp {iter : Expr} {t t' : TI} (h : PI X tg iter t) (k : ∀ σ H Q, t' σ H Q → t σ H Q) : PI X tg iter t' := ⟨fun pins s σ H Q I hw => h.run pins s σ H Q I (k _ _ _ hw)⟩
/-- a list, a tuple, a text, whichever it is -/
def iSeq (K : PySem.W.Frag) (tl : TE) : TI := fun σ H R => tl σ H fun x H1 => (∃ a xs, x = .ref a ∧ SqL K H1 a xs ∧ R (Itl K a) H1) ∨ (∃ a xs, x = .ref a ∧ SqT K H1 a xs ∧ R (Itt K a) H1) ∨ ∃ z, x = .str z ∧ R (Its z) H1
theorem pi_seq {tl : TE} (hl : PE X a tl) : PI X tg a (iSeq X.K tl) := by
  refine ⟨fun pins s σ H R I h => ?_⟩
  refine thn (hl.run pins s σ H _ I h) fun v s1 ⟨x, H1, I1, r1, q1⟩ => ?_
  rcases q1 with ⟨a, xs, rfl, hq, q⟩ | ⟨a, xs, rfl, hq, q⟩ | ⟨z, rfl, q⟩
  · cases r1
    obtain ⟨its, rv, p, hz⟩ := I1.list hq
    refine wpAny_pyIter_list p.isList ?_
    refine ⟨s1.heap.objs.size, [s1.heap.objs.size], _, _, H1, rfl, I1.kept (t' := s1.toks) fun b o e => Heap.get?_push_of_some _ e, turn_list a _, ⟨_, Heap.get?_push_size _ rfl, rfl, rfl⟩, fun b hb => ?_, q⟩
    have e : b = s1.heap.objs.size := by simpa using hb
    subst e
    exact I1.fpOk (Nat.le_refl _) (I1.hok.fresh (Nat.le_refl _))
  · cases r1
    obtain ⟨its, rv, p, hz⟩ := I1.tuple hq
    refine wpAny_pyIter_tuple (show s1.heap.IsTuple a its.toArray from p) ?_
    refine ⟨s1.heap.objs.size, [s1.heap.objs.size], _, _, H1, rfl, I1.kept (t' := s1.toks) fun b o e => Heap.get?_push_of_some _ e, turn_tuple a _, ⟨_, Heap.get?_push_size _ rfl, rfl, rfl⟩, fun b hb => ?_, q⟩
    have e : b = s1.heap.objs.size := by simpa using hb
    subst e
    exact I1.fpOk (Nat.le_refl _) (I1.hok.fresh (Nat.le_refl _))
  · obtain ⟨t, rfl⟩ := r1
    cases ha : z.cps.all (· < 128)
    · exact wpAny_pyIter_wide ha (pi_one (tk := s1.toks) I1 _ (turn_str _ z t "str_iterator" (.inr rfl)) ⟨_, Heap.get?_push_size _ rfl, rfl, rfl⟩ q)
    · exact wpAny_pyIter_ascii ha (pi_one (tk := s1.toks) I1 _ (turn_str _ z t "str_ascii_iterator" (.inl rfl)) ⟨_, Heap.get?_push_size _ rfl, rfl, rfl⟩ q)
theorem xDat (ha : PE X a (tE X.K w ga)) : PI X tg a (tI X.K w tp fun ρ => (ga ρ).bind fun v ρ1 => (v.fz ρ1).bind fun d ρ2 => Out.ofO (seqOf d) ρ2) := by
  refine PI.imp (pi_seq ha) fun σ H R h => ?_
  obtain ⟨Z, ρ, er, h⟩ := h
  refine ⟨Z, ρ, er, h.bind fun r Z1 H1 ρ1 p1 hk v v1 => ?_⟩
  obtain ⟨Z2, s, p2, vl⟩ := p1.lay v1
  have h2 := hk Z2 H1 p2
  cases r with
  | ow ds =>
    have vl : Rv X.K Z2 v (.list ds) := vl
    cases vl with | lst y1 y2 => ?_
    exact .inl ⟨_, _, rfl, .of (p2.er.sub _ _ y1), h2.ok_now p2.er _ (itr_list y1 y2)⟩
  | fr d0 =>
    obtain ⟨d, Z3, ρ3, p3, r3, h3⟩ := h2.fz p2.er vl
    obtain ⟨ds, e1, h4⟩ := h3.ofO
    have h5 := h4.ok_now p3.er
    cases r3 with
    | lst y1 y2 => cases e1; exact .inl ⟨_, _, rfl, .of (p3.er.sub _ _ y1), h5 _ (itr_list y1 y2)⟩
    | tup y1 y2 => cases e1; exact .inr (.inl ⟨_, _, rfl, sqT_mono p3.er.sub y1.sq, h5 _ (itr_tup y1.sq y2)⟩)
    | str x => cases e1; exact .inr (.inr ⟨_, rfl, h5 _ (itr_str x)⟩)
    | _ => cases e1
  | bx i0 =>
    obtain ⟨d, Z3, ρ3, p3, r3, h3⟩ := h2.fz p2.er vl
    obtain ⟨ds, e1, h4⟩ := h3.ofO
    have h5 := h4.ok_now p3.er
    cases r3 with
    | lst y1 y2 => cases e1; exact .inl ⟨_, _, rfl, .of (p3.er.sub _ _ y1), h5 _ (itr_list y1 y2)⟩
    | tup y1 y2 => cases e1; exact .inr (.inl ⟨_, _, rfl, sqT_mono p3.er.sub y1.sq, h5 _ (itr_tup y1.sq y2)⟩)
    | str x => cases e1; exact .inr (.inr ⟨_, rfl, h5 _ (itr_str x)⟩)
    | _ => cases e1
theorem VLs.one {K : PySem.W.Frag} {σ : St} {Z : Hp} {vs : List V} {r : Vl} (h : VLs K σ Z vs [r]) : ∃ v, vs = [v] ∧ VL K σ Z v r := by
  cases h with | cons h q => cases q; exact ⟨_, rfl, h⟩
theorem xRng1 {p : Pos} (hg : Gl X "range") (hm : X.mg "range" = none) (hs : starEach [a] X.env = [(false, eval a X.env)]) (ha : PE X a (tE X.K w ga)) :
    PI X tg (.Call (.Name "range" p) [a] [] pos) (tI X.K w tp fun ρ => (ga ρ).bind rngV1) := by
  refine PI.imp (pi_range1 hg hm (pa_cons ha pa_nil hs) hs) fun σ H R h => ?_
  obtain ⟨Z, ρ, er, h⟩ := h
  refine tE_then er h fun r v Z1 H1 ρ1 p1 v1 h1 => ?_
  unfold rngV1 at h1
  split at h1
  · rename_i d e1
    obtain ⟨ds, e2, h2⟩ := h1.ofO
    have q := p1.er.sh v1 e1
    unfold rngD at e2
    split at e2
    · rename_i j e3
      cases e3
      split at e2
      · rename_i hb
        cases e2
        cases q
        refine ⟨j, rfl, hb.1, hb.2, ?_⟩
        have k := h2.ok_now p1.er (Itr 0 j.toNat)
        have e0 : (fun (k : Nat) => PyData.int (0 + (k : Int))) = fun (k : Nat) => PyData.int (k : Int) := by funext k; rw [Int.zero_add]
        have it := itr_rng (K := X.K) (tp := tp) (Z := Z1) 0 j.toNat
        rw [e0] at it
        exact k it
      · cases e2
    · rename_i e3; cases e3
    · cases e2
  · exact h1.elim
theorem xRng2 {p : Pos} (hg : Gl X "range") (hm : X.mg "range" = none) (hs : starEach [a, b] X.env = [(false, eval a X.env), (false, eval b X.env)]) (hs2 : starEach [b] X.env = [(false, eval b X.env)]) (ha : PE X a (tE X.K w ga)) (hb : PE X b (tE X.K w gb)) :
    PI X tg (.Call (.Name "range" p) [a, b] [] pos) (tI X.K w tp fun ρ => (ga ρ).bind fun v ρ1 => (gb ρ1).bind fun u ρ2 => rngV2 v u ρ2) := by
  refine PI.imp (pi_range2 hg hm (pa_cons ha (pa_cons hb pa_nil hs2) (by rw [hs, hs2])) hs hs2) fun σ H R h => ?_
  obtain ⟨Z, ρ, er, h⟩ := h
  refine tE_then er h fun r v Z1 H1 ρ1 p1 v1 h1 => ?_
  refine tE_then p1.er h1 fun r2 u Z2 H2 ρ2 p2 v2 h2 => ?_
  unfold rngV2 at h2
  split at h2
  · rename_i d e e1 e1'
    obtain ⟨ds, e2, h3⟩ := h2.ofO
    have q := p2.er.sh (v1.mono p2.st.z) e1
    have q' := p2.er.sh v2 e1'
    unfold rngD at e2
    split at e2
    · rename_i e3; cases e3
    · rename_i i j e3
      cases e3
      split at e2
      · rename_i hb
        cases e2
        cases q
        cases q'
        exact ⟨i, j, rfl, hb, h3.ok_now p2.er _ (itr_rng i _)⟩
      · cases e2
    · cases e2
  · exact h2.elim
theorem xEnum {elts : List Expr} {kk : Nat} {p tpos : Pos} (hg : Gl X "enumerate") (hm : X.mg "enumerate" = none) (hs : starEach [a] X.env = [(false, eval a X.env)]) (ha : PE X a (tE X.K w ga)) :
    PI X (.Tuple elts kk tpos) (.Call (.Name "enumerate" p) [a] [] pos) (tI X.K w true fun ρ => (ga ρ).bind fun v ρ1 => (v.lay.fz ρ1).bind fun d ρ2 => Out.ofO (enumL d) ρ2) := by
  refine PI.imp (Kt.pi_enumA hg hm (pa_cons ha pa_nil hs) hs) fun σ H R h => ?_
  obtain ⟨Z, ρ, er, h⟩ := h
  refine tE_then er h fun r v Z1 H1 ρ1 p1 v1 h1 => ?_
  obtain ⟨d, Z2, ρ2, p2, y1, h2⟩ := h1.fz p1.er v1
  obtain ⟨es, e2, h3⟩ := h2.ofO
  unfold enumL at e2
  split at e2
  · cases e2
    cases y1 with | lst z1 z2 => ?_
    exact ⟨_, _, rfl, .inl ⟨.of (p2.er.sub _ _ z1), h3.ok_now p2.er _ (itr_enum z1 z2)⟩⟩
  · cases e2
    cases y1 with | tup z1 z2 => ?_
    exact ⟨_, _, rfl, .inr ⟨sqT_mono p2.er.sub z1.sq, h3.ok_now p2.er _ (itr_enumT z1.sq z2)⟩⟩
  · cases e2
theorem xZip {elts : List Expr} {kk : Nat} {p tpos : Pos} (hg : Gl X "zip") (hm : X.mg "zip" = none) (hs : starEach [a, b] X.env = (false, eval a X.env) :: starEach [b] X.env) (hs2 : starEach [b] X.env = (false, eval b X.env) :: starEach [] X.env) (hpl : (backTo pos (starEach [b] X.env)).any (·.1) = false)
    (ha : PE X a (tE X.K w ga)) (hb : PE X b (tE X.K w gb)) :
    PI X (.Tuple elts kk tpos) (.Call (.Name "zip" p) [a, b] [] pos) (tI X.K w true fun ρ => (ga ρ).bind fun v ρ1 => (gb ρ1).bind fun u ρ2 => (v.lay.fz ρ2).bind fun d ρ3 => (u.lay.fz ρ3).bind fun e ρ4 => Out.ofO (zipD d e) ρ4) := by
  refine PI.imp (pi_zipA hg hm (pa_cons ha (pa_cons hb pa_nil hs2) hs) hs hpl) fun σ H R h => ?_
  obtain ⟨Z, ρ, er, h⟩ := h
  refine tE_then er h fun r v Z1 H1 ρ1 p1 v1 h1 => ?_
  refine tE_then p1.er h1 fun r2 u Z2 H2 ρ2 p2 v2 h2 => ?_
  obtain ⟨d, Z3, ρ3, p3, y1, h3⟩ := h2.fz p2.er (v1.mono p2.st.z)
  obtain ⟨e, Z4, ρ4, p4, y3, h4⟩ := h3.fz p3.er (v2.mono p3.st.z)
  obtain ⟨es, e2, h5⟩ := h4.ofO
  have y1 := y1.mono p4.st.z
  unfold zipD at e2
  split at e2
  · cases e2
    cases y1 with | lst z1 z2 => ?_
    cases y3 with | lst z3 z4 => ?_
    exact ⟨_, _, _, _, rfl, .inl ⟨.of (p4.er.sub _ _ z1), .of (p4.er.sub _ _ z3), h5.ok_now p4.er _ (itr_zipL z1 z2 z3 z4)⟩⟩
  · cases e2
    cases y1 with | tup z1 z2 => ?_
    cases y3 with | tup z3 z4 => ?_
    exact ⟨_, _, _, _, rfl, .inr ⟨sqT_mono p4.er.sub z1.sq, sqT_mono p4.er.sub z3.sq, h5.ok_now p4.er _ (itr_zipT z1.sq z2 z3.sq z4)⟩⟩
  · cases e2
end
end Wk
end T_WkI
section T_WkJ
set_option maxHeartbeats 4000000
namespace Wk
open PySem PySem.Spec PyProof.Rows L2 RZ
/-! ### slots given data -/
theorem ER.put {K : PySem.W.Frag} {Z H : Hp} {σ : St} {ρ : Env} {i : Nat} {v : V} {d : D} (er : ER K Z H σ ρ) (hi : i < ρ.length) (h : Rv K Z v d) :
    ER K Z H (σ.set i (some v)) (ρ.set i (.fr d)) ∧ ∀ a, isBx (σ.set i (some v)) (ρ.set i (.fr d)) a → isBx σ ρ a := by
  have hiσ : i < σ.length := by rw [← er.len]; exact hi
  have lr : ∀ j, (ρ.set i (.fr d))[j]? = if i = j then some (Sl.fr d) else ρ[j]? := fun j => by
    rw [List.getElem?_set]
    by_cases z : i = j
    · subst z; simp [hi]
    · simp [z]
  have ls : ∀ j, (σ.set i (some v))[j]? = if i = j then some (some v) else σ[j]? := fun j => by
    rw [List.getElem?_set]
    by_cases z : i = j
    · subst z; simp [hiσ]
    · simp [z]
  have bxo : ∀ (j : Nat) (es : List D), (ρ.set i (.fr d))[j]? = some (Sl.bx es) → i ≠ j ∧ ρ[j]? = some (Sl.bx es) := fun j es z => by
    rw [lr] at z
    by_cases y : i = j
    · simp [y] at z
    · simp [y] at z; exact ⟨y, z⟩
  refine ⟨⟨by rw [List.length_set, List.length_set]; exact er.len, er.sub, fun j e q => ?_, fun j es q => ?_, fun j ns q => ?_, fun j k es fs a q1 q2 q3 q4 => ?_⟩, fun a q => ?_⟩
  · rw [lr] at q
    rw [ls]
    by_cases y : i = j
    · simp only [y, if_true, Option.some.injEq, Sl.fr.injEq] at q ⊢
      subst q
      exact ⟨v, rfl, h⟩
    · simp only [y, if_false] at q ⊢
      exact er.fr j e q
  · obtain ⟨y, q⟩ := bxo j es q
    rw [ls, if_neg y]
    exact er.bx j es q
  · rw [lr] at q
    rw [ls]
    by_cases y : i = j
    · simp [y] at q
    · simp only [y, if_false] at q ⊢
      exact er.scr j ns q
  · obtain ⟨y1, z1⟩ := bxo j es q1
    obtain ⟨y2, z2⟩ := bxo k fs q2
    rw [ls, if_neg y1] at q3
    rw [ls, if_neg y2] at q4
    exact er.ne j k es fs a z1 z2 q3 q4
  · obtain ⟨j, es, q1, q2⟩ := q
    obtain ⟨y, z⟩ := bxo j es q1
    rw [ls, if_neg y] at q2
    exact ⟨j, es, z, q2⟩
/-- what a target's store leaves -/
structure Tgd (K : PySem.W.Frag) (Z H : Hp) (σ : St) (ρ : Env) (vs : List Nat) (σ' : St) (ρ' : Env) : Prop where
  er : ER K Z H σ' ρ'
  bx : ∀ a, isBx σ' ρ' a → isBx σ ρ a
  len : σ'.length = σ.length
  oth : ∀ j, j ∉ vs → σ'[j]? = σ[j]?
def Tg.isTp : Tg → Bool
  | .tp _ => true
  | _ => false
def tG (K : PySem.W.Frag) (tg : Tg) : TG := fun v σ H Q => ∃ Z ρ d ρ', ER K Z H σ ρ ∧ RvQ K tg.isTp Z v d ∧ asg tg d ρ = some ρ' ∧ ∀ σ', Tgd K Z H σ ρ tg.slots σ' ρ' → Q σ' H
def tGs (K : PySem.W.Frag) (tg : Tg) : TGs := fun vs σ H Q => ∃ Z ρ ds ρ', ER K Z H σ ρ ∧ RvA K Z vs ds ∧ asgs tg ds ρ = some ρ' ∧ ∀ σ', Tgd K Z H σ ρ tg.slotsL σ' ρ' → Q σ' H
section
variable {X : Cx} {pos : Pos}
theorem PG.imp {target : Expr} {t t' : TG} (h : PG X target t) (k : ∀ v σ H Q, t' v σ H Q → t v σ H Q) : PG X target t' := ⟨fun pins s σ H v u Q I r hw => h.run pins s σ H v u Q I r (k _ _ _ _ hw)⟩
theorem PGs.imp {ts : List Expr} {t t' : TGs} (h : PGs X ts t) (k : ∀ v σ H Q, t' v σ H Q → t v σ H Q) : PGs X ts t' := ⟨fun pins s σ H v u Q I r hw => h.run pins s σ H v u Q I r (k _ _ _ _ hw)⟩
theorem gName_ok {i : Nat} {x : Str} (hN : X.N.Nodup) (hi : X.N[i]? = some x) (hx : Loc X.env.scope x) (hf : X.fn x = true ∨ X.env.scope.names.lookup x = some .local) : PG X (.Name x pos) (tG X.K (.nm i)) := by
  refine PG.imp (pg_name hN hi hx hf) fun v σ H Q h => ?_
  obtain ⟨Z, ρ, d, ρ', er, hr, e, k⟩ := h
  have hr : Rv X.K Z v d := hr.elim id fun z => nomatch z.1
  unfold asg at e
  split at e
  · rename_i hl
    cases e
    obtain ⟨q1, q2⟩ := er.put hl hr
    exact k _ ⟨q1, q2, by rw [List.length_set], fun j hj => List.getElem?_set_ne (by rintro rfl; exact hj (by simp [Tg.slots]))⟩
  · cases e
theorem gNil_ok : PGs X [] (tGs X.K .nil) := by
  refine PGs.imp pgs_nil fun v σ H Q h => ?_
  obtain ⟨Z, ρ, ds, ρ', er, hr, e, k⟩ := h
  cases ds with
  | nil =>
    cases hr
    unfold asgs at e
    cases e
    exact ⟨rfl, k _ ⟨er, fun _ q => q, rfl, fun _ _ => rfl⟩⟩
  | cons d ds => unfold asgs at e; cases e
theorem gCons_ok {e : Expr} {es : List Expr} {h t : Tg} (h1 : PG X e (tG X.K h)) (h2 : PGs X es (tGs X.K t))
    (hs : (assignEach (e :: es) X.env).map (·.2) = assign e X.env :: (assignEach es X.env).map (·.2)) : PGs X (e :: es) (tGs X.K (.cons h t)) := by
  refine PGs.imp (pgs_cons h1 h2 hs) fun v σ H Q q => ?_
  obtain ⟨Z, ρ, ds, ρ', er, hr, e, k⟩ := q
  cases ds with
  | nil => unfold asgs at e; cases e
  | cons d ds =>
    cases hr with | cons y1 y2 => ?_
    unfold asgs at e
    obtain ⟨ρ1, e1, e2⟩ := Option.bind_eq_some_iff.mp e
    refine ⟨_, _, rfl, Z, ρ, d, ρ1, er, .inl y1, e1, fun σ1 t1 => ⟨Z, ρ1, ds, ρ', t1.er, y2, e2, fun σ2 t2 => k σ2 ⟨t2.er, fun a z => t1.bx a (t2.bx a z), t2.len.trans t1.len, fun j hj => ?_⟩⟩⟩
    have hj' : j ∉ h.slots ∧ j ∉ t.slotsL := by
      simpa [Tg.slotsL] using hj
    rw [t2.oth j hj'.2, t1.oth j hj'.1]
/-- a row of targets: a tuple or a list -/
def gSeq (K : PySem.W.Frag) (n : Nat) (t : TGs) : TG := fun v σ H Q => ∃ a xs, v = .ref a ∧ (SqT K H a xs ∨ SqL K H a xs) ∧ xs.length = n ∧ t xs σ H Q
theorem pg_seq {es : List Expr} {k : Nat} {t : TGs} {n : Nat} (hc : X.calm = true) (h : PGs X es t) (hn : (assignEach es X.env).length = n) (hst : (assignEach es X.env).findIdx? (·.1) = none) : PG X (.Tuple es k pos) (gSeq X.K n t) := by
  refine ⟨fun pins s σ H v u Q I r hw => ?_⟩
  obtain ⟨a, xs, e1, hq, hl, hw⟩ := hw
  rcases hq with hq | hq
  · exact (pg_tup hc h hn hst).run pins s σ H v u Q I r ⟨a, xs, e1, hq, hl, hw⟩
  · exact (pg_lst hc h hn hst).run pins s σ H v u Q I r ⟨a, xs, e1, hq, hl, hw⟩
def Tg.len : Tg → Nat
  | .cons _ t => t.len + 1
  | _ => 0
theorem asgs_length : ∀ {t : Tg} {ds : List D} {ρ ρ' : Env}, asgs t ds ρ = some ρ' → ds.length = t.len
  | .nil, [], _, _, _ => rfl
  | .nil, _ :: _, _, _, e => by unfold asgs at e; cases e
  | .nm i, _, _, _, e => by unfold asgs at e; cases e
  | .tp l, _, _, _, e => by unfold asgs at e; cases e
  | .cons h t, [], _, _, e => by unfold asgs at e; cases e
  | .cons h t, d :: ds, _, _, e => by
    unfold asgs at e
    obtain ⟨ρ1, e1, e2⟩ := Option.bind_eq_some_iff.mp e
    rw [List.length_cons, asgs_length e2]; rfl
theorem gTup_ok {es : List Expr} {k : Nat} {t : Tg} (hc : X.calm = true) (h : PGs X es (tGs X.K t)) (hn : (assignEach es X.env).length = t.len) (hst : (assignEach es X.env).findIdx? (·.1) = none) : PG X (.Tuple es k pos) (tG X.K (.tp t)) := by
  refine PG.imp (pg_seq hc h hn hst) fun v σ H Q q => ?_
  obtain ⟨Z, ρ, d, ρ', er, hr, e, kk⟩ := q
  have sl : (Tg.tp t).slots = t.slotsL := by rw [Tg.slots]
  rw [sl] at kk
  cases d with
  | tuple ds =>
    obtain ⟨a, vs, rfl, y1, y2⟩ : ∃ (a : Addr) (vs : List V), v = .ref a ∧ SqT X.K Z a vs ∧ RvA X.K Z vs ds := by
      rcases hr with hr | ⟨_, a, vs, ds', z1, z2, z3, z4⟩
      · cases hr with | tup y1 y2 => exact ⟨_, _, rfl, y1.sq, y2⟩
      · cases z2; exact ⟨a, vs, z1, z3, z4⟩
    have e : asgs t ds ρ = some ρ' := by unfold asg at e; exact e
    exact ⟨_, _, rfl, .inl (sqT_mono er.sub y1), by rw [y2.length, asgs_length e], Z, ρ, ds, ρ', er, y2, e, kk⟩
  | list ds =>
    have hr : Rv X.K Z v (.list ds) := hr.elim id fun ⟨_, _, _, _, _, z, _⟩ => nomatch z
    cases hr with | lst y1 y2 => ?_
    have e : asgs t ds ρ = some ρ' := by unfold asg at e; exact e
    exact ⟨_, _, rfl, .inr (.of (er.sub _ _ y1)), by rw [y2.length, asgs_length e], Z, ρ, ds, ρ', er, y2, e, kk⟩
  | _ => unfold asg at e; cases e
end
/-! ### comprehensions -/
theorem wipeE_len (ρ : Env) : ∀ vs : List Nat, (wipeE ρ vs).length = ρ.length
  | [] => rfl
  | v :: vs => by unfold wipeE; rw [List.length_set, wipeE_len ρ vs]
theorem wipeE_look {ρ : Env} {i : Nat} {s : Sl} : ∀ {vs : List Nat}, (wipeE ρ vs)[i]? = some s → s = .no ∨ (ρ[i]? = some s ∧ i ∉ vs)
  | [], h => .inr ⟨h, by simp⟩
  | v :: vs, h => by
    unfold wipeE at h
    rw [List.getElem?_set] at h
    by_cases e : v = i
    · subst e
      rw [if_pos rfl] at h
      split at h
      · cases h; exact .inl rfl
      · cases h
    · rw [if_neg e] at h
      rcases wipeE_look h with z | ⟨z1, z2⟩
      · exact .inl z
      · exact .inr ⟨z1, by simp only [List.mem_cons, not_or]; exact ⟨fun q => e q.symm, z2⟩⟩
theorem wipe_at {σ : St} {i : Nat} : ∀ {vs : List Nat}, i ∉ vs → (wipe σ vs)[i]? = σ[i]?
  | [], _ => rfl
  | v :: vs, h => by
    unfold wipe
    rw [List.getElem?_set_ne (by rintro rfl; exact h (by simp))]
    exact wipe_at fun q => h (List.mem_cons_of_mem _ q)
theorem wipe_ext {σ σ' : St} (hl : σ'.length = σ.length) : ∀ (vs : List Nat), (∀ j, j ∉ vs → σ'[j]? = σ[j]?) → wipe σ' vs = wipe σ vs := by
  intro vs h
  apply List.ext_getElem?
  intro i
  by_cases hi : i ∈ vs
  · have gone : ∀ (τ : St) (us : List Nat), i ∈ us → (wipe τ us)[i]? = if i < τ.length then some none else none := by
      intro τ us hu
      induction us with
      | nil => cases hu
      | cons u us ih =>
        unfold wipe
        rw [List.getElem?_set]
        by_cases e : u = i
        · subst e
          rw [if_pos rfl, wipe_length]
        · rw [if_neg e]
          rcases List.mem_cons.mp hu with q | q
          · exact absurd q.symm e
          · exact ih q
    rw [gone _ _ hi, gone _ _ hi, hl]
  · rw [wipe_at hi, wipe_at hi]
    exact h i hi
theorem ER.wiped {K : PySem.W.Frag} {Z H : Hp} {σ : St} {ρ : Env} (vs : List Nat) (er : ER K Z H σ ρ) : ER K Z H (wipe σ vs) (wipeE ρ vs) ∧ ∀ a, isBx (wipe σ vs) (wipeE ρ vs) a → isBx σ ρ a := by
  have go : ∀ (i : Nat) (s : Sl), (wipeE ρ vs)[i]? = some s → s ≠ .no → ρ[i]? = some s ∧ (wipe σ vs)[i]? = σ[i]? := fun i s h n => by
    rcases wipeE_look h with z | ⟨z1, z2⟩
    · exact absurd z n
    · exact ⟨z1, wipe_at z2⟩
  refine ⟨⟨by rw [wipeE_len, wipe_length]; exact er.len, er.sub, fun i d h => ?_, fun i ds h => ?_, fun i ns h => ?_, fun i j ds es a h1 h2 h3 h4 => ?_⟩, fun a h => ?_⟩
  · obtain ⟨h1, h2⟩ := go i _ h (by simp); rw [h2]; exact er.fr i d h1
  · obtain ⟨h1, h2⟩ := go i _ h (by simp); rw [h2]; exact er.bx i ds h1
  · obtain ⟨h1, h2⟩ := go i _ h (by simp); rw [h2]; exact er.scr i ns h1
  · obtain ⟨y1, y2⟩ := go i _ h1 (by simp)
    obtain ⟨z1, z2⟩ := go j _ h2 (by simp)
    rw [y2] at h3; rw [z2] at h4
    exact er.ne i j ds es a y1 z1 h3 h4
  · obtain ⟨i, ds, h1, h2⟩ := h
    obtain ⟨y1, y2⟩ := go i _ h1 (by simp)
    rw [y2] at h2
    exact ⟨i, ds, y1, h2⟩
theorem ER.other {K : PySem.W.Frag} {Z H : Hp} {σ : St} {ρ : Env} {a : Addr} {o : HO} (er : ER K Z H σ ρ) (hz : Z a = none) (hb : ¬ isBx σ ρ a) : ER K Z (upd H a o) σ ρ where
  len := er.len
  sub := fun b u h => by
    rw [upd_ne]
    · exact er.sub _ _ h
    · rintro rfl; rw [hz] at h; cases h
  fr := er.fr
  bx := fun i ds h => by
    obtain ⟨b, vs, h1, h2, h3, h4⟩ := er.bx i ds h
    refine ⟨b, vs, h1, ?_, h3, h4⟩
    rw [upd_ne]
    · exact h2
    · rintro rfl; exact hb ⟨i, ds, h, h1⟩
  scr := er.scr
  ne := er.ne
theorem Step.same {Z H : Hp} {σ σ' : St} {ρ ρ' : Env} (h : ∀ a, isBx σ' ρ' a → isBx σ ρ a) : Step Z H σ ρ Z H σ' ρ' := ⟨.refl _, fun _ _ e _ => e, fun _ q => .inl q, fun a q => .inl (h a q)⟩
theorem Step.newCell {Z H Z1 H1 : Hp} {σ σ' : St} {ρ ρ' : Env} {a : Addr} {o : HO} (s : Step Z H σ ρ Z1 H1 σ' ρ') (h : H a = none) : Step Z H σ ρ Z1 (upd H1 a o) σ' ρ' :=
  ⟨s.z, fun b u e q => (by
    rw [upd_ne]
    · exact s.fr b u e q
    · rintro rfl
      rw [h] at e
      cases e), s.nz, s.nb⟩
theorem wipe_wipe (σ : St) (vs : List Nat) : wipe (wipe σ vs) vs = wipe σ vs := wipe_ext (wipe_length _ _) vs fun j hj => wipe_at hj
theorem backE_len (ρ0 ρ : Env) : ∀ vs : List Nat, (backE ρ0 ρ vs).length = ρ.length
  | [] => rfl
  | v :: vs => by unfold backE; rw [List.length_set, backE_len ρ0 ρ vs]
theorem backE_look {ρ0 ρ : Env} {i : Nat} {s : Sl} : ∀ {vs : List Nat}, (backE ρ0 ρ vs)[i]? = some s → s ≠ .no → (i ∈ vs ∧ ρ0[i]? = some s) ∨ (i ∉ vs ∧ ρ[i]? = some s)
  | [], h, _ => .inr ⟨by simp, h⟩
  | v :: vs, h, n => by
    unfold backE at h
    rw [List.getElem?_set] at h
    by_cases e : v = i
    · subst e
      rw [if_pos rfl] at h
      split at h
      · simp only [Option.some.injEq] at h
        subst h
        refine .inl ⟨by simp, ?_⟩
        rw [List.getD_eq_getElem?_getD] at n ⊢
        cases q : ρ0[v]? with
        | none => rw [q] at n; exact absurd rfl n
        | some t => rfl
      · cases h
    · rw [if_neg e] at h
      rcases backE_look h n with ⟨z1, z2⟩ | ⟨z1, z2⟩
      · exact .inl ⟨List.mem_cons_of_mem _ z1, z2⟩
      · exact .inr ⟨by simp only [List.mem_cons, not_or]; exact ⟨fun q => e q.symm, z1⟩, z2⟩
/-- behind a block: its own names' slots as they were -/
theorem Pst.back {K : PySem.W.Frag} {Z1 H1 Z' H' : Hp} {σ : St} {ρ1 ρ' : Env} {own : List Nat} (er1 : ER K Z1 H1 σ ρ1) (st : Step Z1 H1 (wipe σ own) (wipeE ρ1 own) Z' H' (wipe σ own) ρ') (er : ER K Z' H' (wipe σ own) ρ') : Pst K Z1 H1 σ ρ1 Z' H' (backE ρ1 ρ' own) := by
  have w0 := er1.wiped own
  have toB : ∀ a, isBx (wipe σ own) (wipeE ρ1 own) a → ∃ (k : Nat) (ds : List D), k ∉ own ∧ ρ1[k]? = some (Sl.bx ds) ∧ σ[k]? = some (some (V.ref a)) := fun a ⟨k, ds, h1, h2⟩ => by
    rcases wipeE_look h1 with z | ⟨z1, z2⟩
    · cases z
    · exact ⟨k, ds, z2, z1, by rw [wipe_at z2] at h2; exact h2⟩
  have keepB : ∀ (i : Nat) (ds : List D), i ∈ own → ρ1[i]? = some (Sl.bx ds) → ∃ a vs, σ[i]? = some (some (V.ref a)) ∧ H1 a = some (.lst vs) ∧ H' a = some (.lst vs) ∧ RvA K Z' vs ds ∧ Z' a = none := fun i ds hi h => by
    obtain ⟨a, vs, h1, h2, h3, h4⟩ := er1.bx i ds h
    have nb : ¬ isBx (wipe σ own) (wipeE ρ1 own) a := fun q => by
      obtain ⟨k, es, q1, q2, q3⟩ := toB a q
      have := er1.ne _ _ _ _ _ h q2 h1 q3
      subst this
      exact q1 hi
    refine ⟨a, vs, h1, h2, st.fr a _ h2 nb, h3.mono st.z, ?_⟩
    cases e : Z' a with
    | none => rfl
    | some o =>
      rcases st.nz a (by rw [e]; simp) with z | z | z
      · exact absurd h4 z
      · rw [h2] at z; cases z
      · exact absurd z nb
  have keepN : ∀ (i : Nat) (ds : List D), i ∉ own → ρ'[i]? = some (Sl.bx ds) → ∃ a vs, σ[i]? = some (some (V.ref a)) ∧ H' a = some (.lst vs) ∧ RvA K Z' vs ds ∧ Z' a = none := fun i ds hi h => by
    obtain ⟨a, vs, h1, h2, h3, h4⟩ := er.bx i ds h
    rw [wipe_at hi] at h1
    exact ⟨a, vs, h1, h2, h3, h4⟩
  refine ⟨⟨st.z, fun b o e q => st.fr b o e fun z => q (w0.2 b z), fun b q => ?_, fun b q => ?_⟩, ⟨by rw [backE_len, er.len, wipe_length], er.sub, fun i d h => ?_, fun i ds h => ?_, fun i ns h => ?_, fun i j ds es a h1 h2 h3 h4 => ?_⟩⟩
  · rcases st.nz b q with z | z | z
    · exact .inl z
    · exact .inr (.inl z)
    · exact .inr (.inr (w0.2 b z))
  · obtain ⟨i, ds, h1, h2⟩ := q
    rcases backE_look h1 (by simp) with ⟨z1, z2⟩ | ⟨z1, z2⟩
    · exact .inl ⟨i, ds, z2, h2⟩
    · rcases st.nb b ⟨i, ds, z2, by rw [wipe_at z1]; exact h2⟩ with y | y
      · exact .inl (w0.2 b y)
      · exact .inr y
  · rcases backE_look h (by simp) with ⟨z1, z2⟩ | ⟨z1, z2⟩
    · obtain ⟨v, y1, y2⟩ := er1.fr i d z2; exact ⟨v, y1, y2.mono st.z⟩
    · obtain ⟨v, y1, y2⟩ := er.fr i d z2; rw [wipe_at z1] at y1; exact ⟨v, y1, y2⟩
  · rcases backE_look h (by simp) with ⟨z1, z2⟩ | ⟨z1, z2⟩
    · obtain ⟨a, vs, y1, _, y2, y3, y4⟩ := keepB i ds z1 z2; exact ⟨a, vs, y1, y2, y3, y4⟩
    · exact keepN i ds z1 z2
  · rcases backE_look h (by simp) with ⟨z1, z2⟩ | ⟨z1, z2⟩
    · obtain ⟨a, y1, y2⟩ := er1.scr i ns z2; exact ⟨a, y1, sqL_mono st.z y2⟩
    · obtain ⟨a, y1, y2⟩ := er.scr i ns z2; rw [wipe_at z1] at y1; exact ⟨a, y1, y2⟩
  · have mixed : ∀ (i j : Nat) (ds es : List D), i ∈ own → ρ1[i]? = some (Sl.bx ds) → j ∉ own → ρ'[j]? = some (Sl.bx es) → σ[i]? = some (some (V.ref a)) → σ[j]? = some (some (V.ref a)) → False := fun i j ds es x1 x2 x3 x4 x5 x6 => by
      rcases st.nb a ⟨j, es, x4, by rw [wipe_at x3]; exact x6⟩ with y | y
      · obtain ⟨k, fs, q1, q2, q3⟩ := toB a y
        have := er1.ne _ _ _ _ _ x2 q2 x5 q3
        subst this
        exact q1 x1
      · obtain ⟨b, vs, y1, y2, _⟩ := er1.bx i ds x2
        rw [x5] at y1; cases y1
        rw [y] at y2; cases y2
    rcases backE_look h1 (by simp) with ⟨z1, z2⟩ | ⟨z1, z2⟩ <;> rcases backE_look h2 (by simp) with ⟨y1, y2⟩ | ⟨y1, y2⟩
    · exact er1.ne i j ds es a z2 y2 h3 h4
    · exact (mixed i j ds es z1 z2 y1 y2 h3 h4).elim
    · exact (mixed j i es ds y1 y2 z1 z2 h4 h3).elim
    · exact er.ne i j ds es a z2 y2 (by rw [wipe_at z1]; exact h3) (by rw [wipe_at y1]; exact h4)
theorem calm_ok {α : Type} {o : Out α} {a : α} {ρ : Env} (h : o.calm = .ok a ρ) : o = .ok a ρ := by
  cases o with
  | ok b r => exact h
  | exc x r => cases h
  | stuck => cases h
theorem bind_ok' {α β : Type} {o : Out α} {f : α → Env → Out β} {b : β} {ρ : Env} (h : o.bind f = .ok b ρ) : ∃ a r, o = .ok a r ∧ f a r = .ok b ρ := by
  cases o with
  | ok a r => exact ⟨a, r, rfl, h⟩
  | exc x r => cases h
  | stuck => cases h
theorem ofO_ok {α : Type} {o : Option α} {ρ r : Env} {a : α} (h : Out.ofO o ρ = .ok a r) : o = some a ∧ r = ρ := by
  cases o with
  | none => cases h
  | some b => cases h; exact ⟨rfl, rfl⟩
/-- a comprehension's reading -/
theorem lc_read {K : PySem.W.Frag} {w : Wi} {gi : Env → Out (List D)} {gc : Env → Out Bool} {ge : Env → Out Vl} {tg : Tg} {own : List Nat} {σ : St} {H : Hp} {Q : VK} (hsub : ∀ j ∈ tg.slots, j ∈ own)
    (h : tE K w (fun ρ => (gi ρ).bind fun ds ρ1 => (cloop own tg gc (fun r => (ge r).bind fun v r1 => v.fz r1) ds [] (wipeE ρ1 own)).calm.bind fun xs ρ2 => .ok (.ow xs) (backE ρ1 ρ2 own)) σ H Q) :
    tLc (tI K w tg.isTp gi) (tG K tg) (tT K (Wi.none w.cls) gc) (tE K (Wi.none w.cls) ge) own σ H Q := by
  obtain ⟨Z, ρ, er, h⟩ := h
  refine ⟨Z, ρ, er, h.bind fun ds Z1 H1 ρ1 p1 hk J it D hD => ?_⟩
  have h1 := hk Z1 H1 p1
  cases ec : (cloop own tg gc (fun r => (ge r).bind fun v r1 => v.fz r1) ds [] (wipeE ρ1 own)).calm with
  | stuck => rw [ec] at h1; exact h1.elim
  | exc x r =>
    exfalso
    cases e : cloop own tg gc (fun r => (ge r).bind fun v r1 => v.fz r1) ds [] (wipeE ρ1 own) with
    | ok a r' => rw [e] at ec; cases ec
    | exc a r' => rw [e] at ec; cases ec
    | stuck => rw [e] at ec; cases ec
  | ok xs ρ2 =>
    rw [ec] at h1
    have ec := calm_ok ec
    have fin : ∀ Z' H', Pst K Z1 H1 σ ρ1 Z' H' (backE ρ1 ρ2 own) → ∀ v, VR K H σ ρ Z' H' (backE ρ1 ρ2 own) v (.ow xs) → Q v H' := h1
    have er0 := (p1.er.wiped own)
    have zD : Z1 D = none := none_sub p1.er.sub hD
    refine ⟨fun i m H' => m = ds.length - i ∧ i ≤ ds.length ∧ ∃ Z' ρ' acc vs, cloop own tg gc (fun r => (ge r).bind fun v r1 => v.fz r1) (ds.drop i) acc ρ' = .ok xs ρ2 ∧
      Step Z1 H1 (wipe σ own) (wipeE ρ1 own) Z' H' (wipe σ own) ρ' ∧ ER K Z' H' (wipe σ own) ρ' ∧ H' D = some (.lst vs) ∧ RvA K Z' vs acc ∧ Z' D = none ∧ ¬ isBx (wipe σ own) ρ' D, ⟨ds.length, by simp, Nat.zero_le _, Z1, wipeE ρ1 own, [], [], ?_⟩, fun i m H' hW => ?_⟩
    · have nb : ¬ isBx (wipe σ own) (wipeE ρ1 own) D := fun ⟨k, es, q1, q2⟩ => by
        obtain ⟨b, ws, y1, y2, _⟩ := er0.1.bx k es q1
        rw [q2] at y1; cases y1
        rw [hD] at y2; cases y2
      exact ⟨ec, Step.refl.newCell hD, er0.1.other zD nb, upd_same, .nil, zD, nb⟩
    · obtain ⟨rfl, hi, Z', ρ', acc, vs, e1, st, er', hv, ra, zd, nb⟩ := hW
      by_cases hlt : i < ds.length
      · have sz : Same Z1 Z' := st.z
        refine .inr ⟨it.go i H' (sz.trans er'.sub) hlt, fun H'' => ∃ m', m' < ds.length - i ∧ (m' = ds.length - (i + 1) ∧ i + 1 ≤ ds.length ∧ ∃ Z' ρ' acc vs, cloop own tg gc (fun r => (ge r).bind fun v r1 => v.fz r1) (ds.drop (i + 1)) acc ρ' = .ok xs ρ2 ∧
          Step Z1 H1 (wipe σ own) (wipeE ρ1 own) Z' H'' (wipe σ own) ρ' ∧ ER K Z' H'' (wipe σ own) ρ' ∧ H'' D = some (.lst vs) ∧ RvA K Z' vs acc ∧ Z' D = none ∧ ¬ isBx (wipe σ own) ρ' D), fun H'' q => q, fun x H2 hy => ?_⟩
        obtain ⟨Z2, d, ex, hd, hr⟩ := it.yl i Z' H' x H2 sz er'.sub hlt hy
        have ed : ds.drop i = d :: ds.drop (i + 1) := by
          rw [List.drop_eq_getElem_cons hlt]
          rw [List.getElem?_eq_getElem hlt] at hd
          cases hd; rfl
        rw [ed] at e1
        unfold cloop at e1
        obtain ⟨ρa, _, e2, e3⟩ := bind_ok' e1
        obtain ⟨e2, _⟩ := ofO_ok e2
        obtain ⟨b, ρb, e4, e5⟩ := bind_ok' e3
        have erW := (er'.ext ex).wiped own
        rw [wipe_wipe] at erW
        refine ⟨Z2, wipeE ρ' own, d, ρa, erW.1, hr, e2, fun σa ta => ⟨?_, Z2, ρa, ta.er, ?_⟩⟩
        · exact wipe_ext (by rw [ta.len, wipe_length]) own fun j hj => by rw [ta.oth j fun q => hj (hsub j q), wipe_at hj]
        rw [e4]
        have wa : wipe σa own = wipe σ own := wipe_ext (by rw [ta.len, wipe_length]) own fun j hj => by rw [ta.oth j fun q => hj (hsub j q), wipe_at hj]
        have stA : Step Z1 H1 (wipe σ own) (wipeE ρ1 own) Z2 H2 σa ρa := (st.trans ex.step).trans (.same fun a q => erW.2 a (ta.bx a q))
        have nbA : ¬ isBx σa ρa D := fun q => nb (erW.2 D (ta.bx D q))
        have hv2 := ex.h _ _ hv
        have zd2 : Z2 D = none := by
          cases e : Z2 D with
          | none => rfl
          | some o =>
            rcases ex.nz D (by rw [e]; simp) with z | z
            · exact absurd zd z
            · rw [hv] at z; cases z
        -- the end of a turn, from a state within it
        have turn : ∀ {Z4 H4 : Hp} {ρd : Env} {ws : List V} {as : List PyData} {H5 : Hp}, Pst K Z2 H2 σa ρa Z4 H4 ρd → cloop own tg gc (fun r => (ge r).bind fun v r1 => v.fz r1) (ds.drop (i + 1)) as (wipeE ρd own) = .ok xs ρ2 → RvA K Z4 ws as → H5 = upd H4 D (.lst ws) ∨ (H5 = H4 ∧ ws = vs) →
            ∃ m', m' < ds.length - i ∧ (m' = ds.length - (i + 1) ∧ i + 1 ≤ ds.length ∧ ∃ Z' ρ' acc vs, cloop own tg gc (fun r => (ge r).bind fun v r1 => v.fz r1) (ds.drop (i + 1)) acc ρ' = .ok xs ρ2 ∧
              Step Z1 H1 (wipe σ own) (wipeE ρ1 own) Z' H5 (wipe σ own) ρ' ∧ ER K Z' H5 (wipe σ own) ρ' ∧ H5 D = some (.lst vs) ∧ RvA K Z' vs acc ∧ Z' D = none ∧ ¬ isBx (wipe σ own) ρ' D) := by
          intro Z4 H4 ρd ws as H5 p4 ec4 r4 h5
          have hv4 : H4 D = some (.lst vs) := p4.st.fr D _ hv2 nbA
          have zd4 : Z4 D = none := by
            cases e : Z4 D with
            | none => rfl
            | some o =>
              rcases p4.st.nz D (by rw [e]; simp) with z | z | z
              · exact absurd zd2 z
              · rw [hv2] at z; cases z
              · exact absurd z nbA
          have erE := p4.er.wiped own
          rw [wa] at erE
          have nbE : ¬ isBx (wipe σ own) (wipeE ρd own) D := fun q => by
            rcases p4.st.nb D (erE.2 D q) with z | z
            · exact nbA z
            · rw [hv2] at z; cases z
          have stE : Step Z1 H1 (wipe σ own) (wipeE ρ1 own) Z4 H4 (wipe σ own) (wipeE ρd own) := (stA.trans p4.st).trans (.same fun a q => erE.2 a q)
          refine ⟨ds.length - (i + 1), by omega, rfl, hlt, Z4, wipeE ρd own, as, ws, ec4, ?_⟩
          rcases h5 with rfl | ⟨rfl, rfl⟩
          · exact ⟨stE.newCell hD, erE.1.other zd4 nbE, upd_same, r4, zd4, nbE⟩
          · exact ⟨stE, erE.1, hv4, r4, zd4, nbE⟩
        intro Z3 H3 p3
        cases b with
        | false =>
          rw [if_neg Bool.false_ne_true] at e5
          exact iteF (turn p3 e5 ((ra.mono ex.z).mono p3.st.z) (.inr ⟨rfl, rfl⟩))
        | true =>
          rw [if_pos rfl] at e5
          obtain ⟨y, ρd, e6, e7⟩ := bind_ok' e5
          obtain ⟨v, ρc, e8, e9⟩ := bind_ok' e6
          refine iteT ⟨Z3, ρb, p3.er, ?_⟩
          rw [e8]
          intro Z4 H4 p4 yv hyv
          obtain ⟨Z5, s5, p5, vl⟩ := p4.lay hyv
          obtain ⟨Z6, p6, r6⟩ : ∃ Z6, Pst K Z3 H3 σa ρb Z6 H4 ρd ∧ Rv K Z6 yv y := by
            cases v with
            | ow dd =>
              have e9 : Out.ok (PyData.list dd) ρc = .ok y ρd := e9
              cases e9
              exact ⟨Z5, p5, vl⟩
            | fr dd => obtain ⟨Z6, q, r⟩ := fz_post p5.er vl e9; exact ⟨Z6, p5.trans q, r⟩
            | bx k => obtain ⟨Z6, q, r⟩ := fz_post p5.er vl e9; exact ⟨Z6, p5.trans q, r⟩
          split at e7
          · rename_i hlen
            have pA := p3.trans p6
            have hv4 : H4 D = some (.lst vs) := pA.st.fr D _ hv2 nbA
            have r0 := ((ra.mono ex.z).mono pA.st.z)
            exact ⟨vs, hv4, by rw [r0.length, ← lim_eq]; exact hlen, turn pA e7 (r0.append (.cons r6 .nil)) (.inl rfl)⟩
          · cases e7
      · have ei : i = ds.length := by omega
        subst ei
        rw [List.drop_length] at e1
        unfold cloop at e1
        cases e1
        refine .inl ⟨it.st _ H' (st.z.trans er'.sub) (Nat.le_refl _), ?_⟩
        have pb := Pst.back p1.er st er'
        refine fin Z' H' pb _ ⟨D, vs, rfl, hv, ra, zd, fun q => ?_, ?_⟩
        · rcases pb.st.nb D q with ⟨k, es, q1, q2⟩ | z
          · obtain ⟨b, ws, y1, y2, _⟩ := p1.er.bx k es q1
            rw [q2] at y1; cases y1
            rw [hD] at y2; cases y2
          · obtain ⟨k, es, q1, q2⟩ := q
            rcases backE_look q1 (by simp) with ⟨z1, z2⟩ | ⟨z1, z2⟩
            · obtain ⟨b, ws, y1, y2, _⟩ := p1.er.bx k es z2
              rw [q2] at y1; cases y1
              rw [hD] at y2; cases y2
            · exact nb ⟨k, es, z2, by rw [wipe_at z1]; exact q2⟩
        · cases e : H D with
          | none => exact .inl rfl
          | some o =>
            by_cases q : isBx σ ρ D
            · exact .inr q
            · rw [p1.st.fr D o e q] at hD; cases hD
end Wk
end T_WkJ
section T_WkK
set_option maxHeartbeats 4000000
namespace Wk
open PySem PySem.Spec PyProof.Rows L2 RZ
section
variable {X : Cx} {w : Wi} {a b c e tg iter elt : Expr} {ga gb gc : Env → Out Vl} {pos : Pos}
theorem rg_items (i j : Int) : (L2.rgV i j) = (List.range (j - i).toNat).map fun (k : Nat) => V.int (i + (k : Int)) := rfl
theorem rvA_rg {K : PySem.W.Frag} {Z : Hp} (i : Int) : ∀ (n : List Nat), RvA K Z (n.map fun (k : Nat) => V.int (i + (k : Int))) (n.map fun (k : Nat) => .int (i + (k : Int)))
  | [] => .nil
  | k :: n => .cons (.int _) (rvA_rg i n)
theorem rng_one {d : D} {ds : List D} (h : rngD [d] = some ds) : ∃ j : Int, d = .int j ∧ -(2 ^ 62) ≤ j ∧ j < 2 ^ 62 ∧ ds = (List.range j.toNat).map fun (k : Nat) => .int (0 + (k : Int)) := by
  unfold rngD at h
  split at h
  · rename_i j e
    cases e
    split at h
    · rename_i hb
      cases h
      exact ⟨j, rfl, hb.1, hb.2, by congr 1; funext k; rw [Int.zero_add]⟩
    · cases h
  · rename_i e; cases e
  · cases h
theorem rng_two {d e : D} {ds : List D} (h : rngD [d, e] = some ds) : ∃ i j : Int, d = .int i ∧ e = .int j ∧ (-(2 ^ 62) ≤ i ∧ i < 2 ^ 62 ∧ -(2 ^ 62) ≤ j ∧ j < 2 ^ 62) ∧ ds = (List.range (j - i).toNat).map fun (k : Nat) => .int (i + (k : Int)) := by
  unfold rngD at h
  split at h
  · rename_i e; cases e
  · rename_i i j e
    cases e
    split at h
    · rename_i hb
      cases h
      exact ⟨i, j, rfl, rfl, hb, rfl⟩
    · cases h
  · cases h
theorem rgOk_of {i j : Int} {ds : List D} (hb : -(2 ^ 62) ≤ i ∧ i < 2 ^ 62 ∧ -(2 ^ 62) ≤ j ∧ j < 2 ^ 62) (hd : ds = (List.range (j - i).toNat).map fun (k : Nat) => .int (i + (k : Int))) (hl : ds.length ≤ LIM) : RgOk i j := by
  subst hd
  rw [List.length_map, List.length_range] at hl
  exact ⟨by omega, by omega, by omega, by omega, by show _ ≤ 2 ^ 24; omega⟩
theorem rngV1_post {K : PySem.W.Frag} {Z H : Hp} {σ : St} {ρ : Env} {v : Vl} {β : Type} {f : List D → Env → Out β} {R : β → Hp → Hp → Env → Prop} (h : Po K w Z H σ ρ ((rngV1 v ρ).bind f) R) : ∃ d ds, v.lay.data ρ = some d ∧ rngD [d] = some ds ∧ Po K w Z H σ ρ (f ds ρ) R := by
  unfold rngV1 at h
  split at h
  · rename_i d e1
    cases e : rngD [d] with
    | none => rw [e] at h; exact h.elim
    | some ds => rw [e] at h; exact ⟨d, ds, e1, e, h⟩
  · exact h.elim
theorem rngV2_post {K : PySem.W.Frag} {Z H : Hp} {σ : St} {ρ : Env} {v u : Vl} {β : Type} {f : List D → Env → Out β} {R : β → Hp → Hp → Env → Prop} (h : Po K w Z H σ ρ ((rngV2 v u ρ).bind f) R) : ∃ d e ds, v.lay.data ρ = some d ∧ u.lay.data ρ = some e ∧ rngD [d, e] = some ds ∧ Po K w Z H σ ρ (f ds ρ) R := by
  unfold rngV2 at h
  split at h
  · rename_i d e e1 e2
    cases e3 : rngD [d, e] with
    | none => rw [e3] at h; exact h.elim
    | some ds => rw [e3] at h; exact ⟨d, e, ds, e1, e2, e3, h⟩
  · exact h.elim
/-- list(range(a)), tuple(range(a)), list(range(a, b)) .. -/
theorem xListRg1 {p p2 pos2 : Pos} (hc : X.calm = true) (hg : Gl X "list") (hm : X.mg "list" = none) (hg2 : Gl X "range") (hm2 : X.mg "range" = none) (na : starEach [a] X.env = (false, eval a X.env) :: starEach [] X.env) (ha : PE X a (tE X.K w ga)) :
    PE X (.Call (.Name "list" p) [.Call (.Name "range" p2) [a] [] pos2] [] pos) (tE X.K w fun ρ => ((ga ρ).bind rngV1).bind lstV) := by
  refine PE.imp (pe_listRg hc hg hm (prg_1 hg2 hm2 ha na)) fun σ H Q h => ?_
  obtain ⟨Z, ρ, er, h⟩ := h
  dsimp only at h
  rw [Out.assoc] at h
  refine tE_then er h fun r v Z1 H1 ρ1 p1 v1 h1 => ?_
  obtain ⟨d, ds, e1, e2, h2⟩ := rngV1_post h1
  obtain ⟨j, rfl, b1, b2, hd⟩ := rng_one e2
  have q := p1.er.sh v1 e1
  cases q
  unfold lstV at h2
  split at h2
  · rename_i hl
    refine ⟨j, rfl, rgOk_of (by omega) (by rw [hd, Int.sub_zero]) hl, (h2.cont p1).lst p1.er.sub ?_⟩
    rw [hd, rg_items, Int.sub_zero]
    exact rvA_rg 0 _
  · exact h2.elim
theorem xTupRg1 {p p2 pos2 : Pos} (hc : X.calm = true) (hg : Gl X "tuple") (hm : X.mg "tuple" = none) (hg2 : Gl X "range") (hm2 : X.mg "range" = none) (na : starEach [a] X.env = (false, eval a X.env) :: starEach [] X.env) (ha : PE X a (tE X.K w ga)) :
    PE X (.Call (.Name "tuple" p) [.Call (.Name "range" p2) [a] [] pos2] [] pos) (tE X.K w fun ρ => ((ga ρ).bind rngV1).bind tupV) := by
  refine PE.imp (Kt.pe_tupRgN hc hg hm (prg_1 hg2 hm2 ha na) rfl) fun σ H Q h => ?_
  obtain ⟨Z, ρ, er, h⟩ := h
  dsimp only at h
  rw [Out.assoc] at h
  refine tE_then er h fun r v Z1 H1 ρ1 p1 v1 h1 => ?_
  obtain ⟨d, ds, e1, e2, h2⟩ := rngV1_post h1
  obtain ⟨j, rfl, b1, b2, hd⟩ := rng_one e2
  have q := p1.er.sh v1 e1
  cases q
  unfold tupV at h2
  split at h2
  · rename_i hl
    refine ⟨j, rfl, rgOk_of (by omega) (by rw [hd, Int.sub_zero]) hl, (h2.cont p1).tup p1.er.sub ?_⟩
    rw [hd, rg_items, Int.sub_zero]
    exact rvA_rg 0 _
  · exact h2.elim
theorem xListRg2 {p p2 pos2 : Pos} (hc : X.calm = true) (hg : Gl X "list") (hm : X.mg "list" = none) (hg2 : Gl X "range") (hm2 : X.mg "range" = none) (na : starEach [a, b] X.env = (false, eval a X.env) :: starEach [b] X.env) (nb : starEach [b] X.env = (false, eval b X.env) :: starEach [] X.env) (hp : (backTo pos2 (starEach [b] X.env)).any (·.1) = false)
    (ha : PE X a (tE X.K w ga)) (hb : PE X b (tE X.K w gb)) :
    PE X (.Call (.Name "list" p) [.Call (.Name "range" p2) [a, b] [] pos2] [] pos) (tE X.K w fun ρ => ((ga ρ).bind fun v ρ1 => (gb ρ1).bind fun u ρ2 => rngV2 v u ρ2).bind lstV) := by
  refine PE.imp (pe_listRg hc hg hm (prg_2 hg2 hm2 ha hb na nb hp)) fun σ H Q h => ?_
  obtain ⟨Z, ρ, er, h⟩ := h
  dsimp only at h
  rw [Out.assoc] at h
  refine tE_then er h fun r v Z1 H1 ρ1 p1 v1 h1 => ?_
  rw [Out.assoc] at h1
  refine tE_then p1.er h1 fun r2 u Z2 H2 ρ2 p2 v2 h2 => ?_
  obtain ⟨d, e, ds, e1, e2, e3, h3⟩ := rngV2_post h2
  obtain ⟨i, j, rfl, rfl, hb, hd⟩ := rng_two e3
  have q := p2.er.sh (v1.mono p2.st.z) e1
  have q' := p2.er.sh v2 e2
  cases q
  cases q'
  unfold lstV at h3
  split at h3
  · rename_i hl
    refine ⟨i, j, rfl, rfl, rgOk_of hb hd hl, (h3.cont (p1.trans p2)).lst p2.er.sub ?_⟩
    rw [hd, rg_items]
    exact rvA_rg i _
  · exact h3.elim
/-- a comprehension -/
theorem xComp {scope : Scope} {own : List (Str × Nat)} {ifs : List Expr} {gi : Env → Out (List D)} {gt : Env → Out Bool} {ge : Env → Out Vl} {t : Tg} (hc : X.calm = true) (hN : X.N.Nodup) (hsub : ∀ j ∈ t.slots, j ∈ own.map (·.2)) (hi : PI X tg iter (tI X.K w t.isTp gi)) (ok : BlkOk X.N X.env.scope scope own)
    (hg : ∀ (s : Shared) (H : Hp) (C : Addr) (cl : List (Str × Addr)) (fp : List Addr), PG (X.blk s H scope (compEnvC scope cl C X.env) fp) tg (tG X.K t))
    (ht : ∀ (s : Shared) (H : Hp) (C : Addr) (cl : List (Str × Addr)) (fp : List Addr), PTs (X.blk s H scope (compEnvC scope cl C X.env) fp) ifs (tT X.K (Wi.none w.cls) gt))
    (he : ∀ (s : Shared) (H : Hp) (C : Addr) (cl : List (Str × Addr)) (fp : List Addr), PE (X.blk s H scope (compEnvC scope cl C X.env) fp) elt (tE X.K (Wi.none w.cls) ge)) (hs : ∀ x, foldedSetIterable iter X.env x = pure x) :
    PE X (.ListComp elt [⟨tg, iter, ifs, 0⟩] scope pos) (tE X.K w fun ρ => (gi ρ).bind fun ds ρ1 => (cloop (own.map (·.2)) t gt (fun r => (ge r).bind fun v r1 => v.fz r1) ds [] (wipeE ρ1 (own.map (·.2)))).calm.bind fun xs ρ2 => .ok (.ow xs) (backE ρ1 ρ2 (own.map (·.2)))) :=
  PE.imp (pe_lc hc hN hi ok hg ht he hs) fun σ H Q h => lc_read hsub h
theorem xTsN : PTs X [] (tT X.K w fun ρ => .ok true ρ) := ⟨fun pins s σ H Q I h => (pts_nil (X := X)).run pins s σ H Q I (by obtain ⟨Z, ρ, er, h⟩ := h; exact h.ok_now er)⟩
theorem xTs1 {gt : Env → Out Bool} (h : PT X c (tT X.K w gt)) : PTs X [c] (tT X.K w gt) := pts_one h
end
end Wk
end T_WkK
section T_WkL
set_option maxHeartbeats 4000000
namespace Wk
open PySem PySem.Spec PyProof.Rows L2 RZ
/-! ### statements -/
/-- a value that leaves a def -/
def VS (K : PySem.W.Frag) (H : Hp) (σ : St) (ρ : Env) (Z' H' : Hp) (σ' : St) (ρ' : Env) (v : V) : Vl → Prop
  | .fr d => Rv K Z' v d
  | .bx _ => False
  | .ow ds => ∃ a vs, v = .ref a ∧ H' a = some (.lst vs) ∧ RvA K Z' vs ds ∧ Z' a = none ∧ ¬ isBx σ' ρ' a ∧ (H a = none ∨ isBx σ ρ a)
theorem VS.back {K : PySem.W.Frag} {Z H Z1 H1 Z2 H2 : Hp} {σ σ1 σ2 : St} {ρ ρ1 ρ2 : Env} {v : V} {r : Vl} (p : Step Z H σ ρ Z1 H1 σ1 ρ1) (h : VS K H1 σ1 ρ1 Z2 H2 σ2 ρ2 v r) : VS K H σ ρ Z2 H2 σ2 ρ2 v r := by
  cases r with
  | fr d => exact h
  | bx i => exact h
  | ow ds =>
    obtain ⟨y, vs, rfl, q1, q2, q3, q4, q5⟩ := h
    refine ⟨y, vs, rfl, q1, q2, q3, q4, ?_⟩
    rcases q5 with z | z
    · cases e9 : H y with
      | none => exact .inl rfl
      | some o =>
        by_cases q9 : isBx σ ρ y
        · exact .inr q9
        · rw [p.fr y o e9 q9] at z; cases z
    · rcases p.nb y z with z | z
      · exact .inr z
      · exact .inl z
/-- what is wanted behind a statement's end -/
def atEnd (K : PySem.W.Frag) (D : Ends) (H : Hp) (σ : St) (ρ : Env) (Z' H' : Hp) (σ' : St) (ρ' : Env) : Fl → Prop
  | .nx => D.nx σ' H'
  | .bk => D.bk σ' H'
  | .ct => D.ct σ' H'
  | .rt r => ∀ v, VS K H σ ρ Z' H' σ' ρ' v r → D.rt v H'
/-- a step of statements: the slots that are kept hold what they held -/
structure Sst (w : Wi) (Z H : Hp) (σ : St) (ρ : Env) (Z' H' : Hp) (σ' : St) (ρ' : Env) : Prop where
  st : Step Z H σ ρ Z' H' σ' ρ'
  kp : ∀ i ∈ w.U, σ'[i]? = σ[i]?
theorem Sst.refl {w : Wi} {Z H : Hp} {σ : St} {ρ : Env} : Sst w Z H σ ρ Z H σ ρ := ⟨.refl, fun _ _ => rfl⟩
theorem Sst.trans {w : Wi} {Z H Z1 H1 Z2 H2 : Hp} {σ σ1 σ2 : St} {ρ ρ1 ρ2 : Env} (a : Sst w Z H σ ρ Z1 H1 σ1 ρ1) (b : Sst w Z1 H1 σ1 ρ1 Z2 H2 σ2 ρ2) : Sst w Z H σ ρ Z2 H2 σ2 ρ2 := ⟨a.st.trans b.st, fun i h => (b.kp i h).trans (a.kp i h)⟩
theorem Pst.ss {w : Wi} {K : PySem.W.Frag} {Z H Z1 H1 : Hp} {σ : St} {ρ ρ1 : Env} (p : Pst K Z H σ ρ Z1 H1 ρ1) : Sst w Z H σ ρ Z1 H1 σ ρ1 := ⟨p.st, fun _ _ => rfl⟩
theorem kp_set {U : List Nat} {σ : St} {i : Nat} {v : Option V} (h : i ∉ U) : ∀ j ∈ U, (σ.set i v)[j]? = σ[j]? := fun j hj => List.getElem?_set_ne (by rintro rfl; exact h hj)
def So (K : PySem.W.Frag) (w : Wi) (Z H : Hp) (σ : St) (ρ : Env) (o : Out Fl) (D : Ends) : Prop := match o with
  | .ok f ρ' => ∀ Z' H' σ', Sst w Z H σ ρ Z' H' σ' ρ' → ER K Z' H' σ' ρ' → atEnd K D H σ ρ Z' H' σ' ρ' f
  | .exc x ρ' => ∀ Z' H' σ', Sst w Z H σ ρ Z' H' σ' ρ' → ER K Z' H' σ' ρ' → w.at x σ' H'
  | .stuck => False
def tS (K : PySem.W.Frag) (w : Wi) (g : Env → Out Fl) : TS := fun D σ H => ∃ Z ρ, ER K Z H σ ρ ∧ So K w Z H σ ρ (g ρ) D
section
variable {K : PySem.W.Frag} {w : Wi} {Z H Z1 H1 : Hp} {σ σ1 : St} {ρ ρ1 : Env} {D : Ends}
theorem So.rebase {o : Out Fl} (h : So K w Z H σ ρ o D) (s : Sst w Z H σ ρ Z1 H1 σ1 ρ1) : So K w Z1 H1 σ1 ρ1 o D := by
  cases o with
  | ok f ρ' =>
    intro Z' H' σ' s' er'
    have q := h Z' H' σ' (s.trans s') er'
    cases f with
    | nx => exact q
    | bk => exact q
    | ct => exact q
    | rt r => exact fun v hv => q v (hv.back s.st)
  | exc x ρ' => exact fun Z' H' σ' s' er' => h Z' H' σ' (s.trans s') er'
  | stuck => exact h
/-- an expression ahead of the rest of a statement -/
theorem So.expr {o : Out Vl} {f : Vl → Env → Out Fl} {R : Vl → Hp → Hp → Env → Prop} (h : So K w Z H σ ρ (o.bind f) D)
    (k : ∀ r Z1 H1 ρ1, Pst K Z H σ ρ Z1 H1 ρ1 → (∀ Z2 H2, Pst K Z H σ ρ Z2 H2 ρ1 → So K w Z2 H2 σ ρ1 (f r ρ1) D) → R r Z1 H1 ρ1) : Po K w Z H σ ρ o R := by
  cases o with
  | ok a ρ' => exact fun Z' H' q => k _ _ _ _ q fun Z2 H2 q2 => So.rebase (by exact h) q2.ss
  | exc x ρ' => exact fun Z' H' q => h Z' H' σ q.ss q.er
  | stuck => exact h
theorem So.test {o : Out Bool} {f : Bool → Env → Out Fl} {R : Bool → Hp → Hp → Env → Prop} (h : So K w Z H σ ρ (o.bind f) D)
    (k : ∀ b Z1 H1 ρ1, Pst K Z H σ ρ Z1 H1 ρ1 → (∀ Z2 H2, Pst K Z H σ ρ Z2 H2 ρ1 → So K w Z2 H2 σ ρ1 (f b ρ1) D) → R b Z1 H1 ρ1) : Po K w Z H σ ρ o R := by
  cases o with
  | ok a ρ' => exact fun Z' H' q => k _ _ _ _ q fun Z2 H2 q2 => So.rebase (by exact h) q2.ss
  | exc x ρ' => exact fun Z' H' q => h Z' H' σ q.ss q.er
  | stuck => exact h
theorem So.iter {o : Out (List PyData)} {f : List PyData → Env → Out Fl} {R : List PyData → Hp → Hp → Env → Prop} (h : So K w Z H σ ρ (o.bind f) D)
    (k : ∀ b Z1 H1 ρ1, Pst K Z H σ ρ Z1 H1 ρ1 → (∀ Z2 H2, Pst K Z H σ ρ Z2 H2 ρ1 → So K w Z2 H2 σ ρ1 (f b ρ1) D) → R b Z1 H1 ρ1) : Po K w Z H σ ρ o R := by
  cases o with
  | ok a ρ' => exact fun Z' H' q => k _ _ _ _ q fun Z2 H2 q2 => So.rebase (by exact h) q2.ss
  | exc x ρ' => exact fun Z' H' q => h Z' H' σ q.ss q.er
  | stuck => exact h
/-- a statement ahead of others -/
theorem So.seq {o : Out Fl} {g : Env → Out Fl} (h : So K w Z H σ ρ (o.bind fun f ρ1 => match f with | .nx => g ρ1 | f => .ok f ρ1) D) : So K w Z H σ ρ o { D with nx := tS K w g D } := by
  cases o with
  | stuck => exact h
  | exc x ρ' => exact h
  | ok f ρ' =>
    cases f with
    | nx => exact fun Z' H' σ' s er => ⟨Z', ρ', er, So.rebase (by exact h) s⟩
    | bk => exact h
    | ct => exact h
    | rt r => exact h
theorem So.now {f : Fl} (er : ER K Z H σ ρ) (h : So K w Z H σ ρ (.ok f ρ) D) : atEnd K D H σ ρ Z H σ ρ f := h Z H σ .refl er
end
section
variable {X : Cx} {w : Wi} {a b c e tg iter elt : Expr} {ga gb gc : Env → Out Vl} {pos : Pos} {st : Stmt} {rest : List Stmt} {g g' : Env → Out Fl}
theorem PS.imp {t t' : TS} (h : PS X st t) (k : ∀ D σ H, t' D σ H → t D σ H) : PS X st t' := ⟨fun pins s σ H D I hw => h.run pins s σ H D I (k _ _ _ hw)⟩
theorem PSs.imp {sts : List Stmt} {t t' : TS} (h : PSs X sts t) (k : ∀ D σ H, t' D σ H → t D σ H) : PSs X sts t' := ⟨fun pins s σ H D I hw => h.run pins s σ H D I (k _ _ _ hw)⟩
theorem sNil : PSs X [] (tS X.K w fun ρ => .ok .nx ρ) := PSs.imp pss_nil fun D σ H ⟨Z, ρ, er, h⟩ => h.now er
theorem sCons (h1 : PS X st (tS X.K w g)) (h2 : PSs X rest (tS X.K w g')) : PSs X (st :: rest) (tS X.K w fun ρ => (g ρ).bind fun f ρ1 => match f with | .nx => g' ρ1 | f => .ok f ρ1) :=
  PSs.imp (pss_cons h1 h2) fun D σ H ⟨Z, ρ, er, h⟩ => ⟨Z, ρ, er, h.seq⟩
theorem sPass : PS X (.Pass pos) (tS X.K w fun ρ => .ok .nx ρ) := PS.imp ps_pass fun D σ H ⟨Z, ρ, er, h⟩ => h.now er
theorem sBreak : PS X (.Break pos) (tS X.K w fun ρ => .ok .bk ρ) := PS.imp ps_break fun D σ H ⟨Z, ρ, er, h⟩ => h.now er
theorem sCont : PS X (.Continue pos) (tS X.K w fun ρ => .ok .ct ρ) := PS.imp ps_continue fun D σ H ⟨Z, ρ, er, h⟩ => h.now er
theorem sExpr (hs : swapsWith e none pos.line X.env = pure false) (he : PE X e (tE X.K w ga)) : PS X (.Expr e pos) (tS X.K w fun ρ => (ga ρ).bind fun _ ρ1 => .ok .nx ρ1) := by
  refine PS.imp (ps_expr he hs) fun D σ H ⟨Z, ρ, er, h⟩ => ⟨Z, ρ, er, h.expr fun r Z1 H1 ρ1 p k v hv => ?_⟩
  exact (k Z1 H1 p).now p.er
theorem retV_ok {K : PySem.W.Frag} {Z H Z1 H1 : Hp} {σ : St} {ρ ρ1 : Env} {D : Ends} {r : Vl} {v : V} (p : Pst K Z H σ ρ Z1 H1 ρ1) (hv : VR K H σ ρ Z1 H1 ρ1 v r) (h : So K w Z H σ ρ (retV r ρ1) D) : D.rt v H1 := by
  cases r with
  | fr d => exact h Z1 H1 σ p.ss p.er v hv
  | ow ds => exact h Z1 H1 σ p.ss p.er v hv
  | bx i =>
    have hv : σ[i]? = some (some v) := hv
    unfold retV at h
    dsimp only at h
    split at h
    · rename_i ds e1
      obtain ⟨a, vs, h1, h2, h3, h4⟩ := p.er.bx i ds e1
      rw [hv] at h1; cases h1
      have look := set_look (s := .no) e1
      have bxo : ∀ (j : Nat) (es : List PyData), (ρ1.set i .no)[j]? = some (Sl.bx es) → i ≠ j ∧ ρ1[j]? = some (Sl.bx es) := fun j es z => by
        rw [look] at z
        by_cases y : i = j
        · simp [y] at z
        · simp [y] at z; exact ⟨y, z⟩
      have stp : Step Z H σ ρ Z1 H1 σ (ρ1.set i .no) := p.st.trans (.same fun b ⟨j, es, q1, q2⟩ => ⟨j, es, (bxo j es q1).2, q2⟩)
      refine h Z1 H1 σ ⟨stp, fun _ _ => rfl⟩ ⟨by rw [List.length_set]; exact p.er.len, p.er.sub, fun j d q => ?_, fun j es q => p.er.bx j es (bxo j es q).2, fun j ns q => ?_, fun j k es fs b q1 q2 => p.er.ne j k es fs b (bxo j es q1).2 (bxo k fs q2).2⟩ _ ⟨a, vs, rfl, h2, h3, h4, fun ⟨j, es, q1, q2⟩ => ?_, ?_⟩
      · rw [look] at q
        by_cases y : i = j
        · simp [y] at q
        · simp [y] at q; exact p.er.fr j d q
      · rw [look] at q
        by_cases y : i = j
        · simp [y] at q
        · simp [y] at q; exact p.er.scr j ns q
      · obtain ⟨y, z⟩ := bxo j es q1
        exact y (p.er.ne _ _ _ _ _ e1 z hv q2)
      · rcases p.st.nb a ⟨i, ds, e1, hv⟩ with z | z
        · exact .inr z
        · exact .inl z
    · rename_i d e1
      obtain ⟨u, h1, h2⟩ := p.er.fr i d e1
      rw [hv] at h1; cases h1
      exact h Z1 H1 σ p.ss p.er v h2
    · exact h.elim
theorem sRet (he : PE X e (tE X.K w ga)) : PS X (.Return (some e) pos) (tS X.K w fun ρ => (ga ρ).bind retV) := by
  refine PS.imp (ps_ret he) fun D σ H ⟨Z, ρ, er, h⟩ => ?_
  cases eg : ga ρ with
  | stuck => dsimp only at h; rw [eg] at h; exact h.elim
  | exc x ρ1 =>
    dsimp only at h; rw [eg] at h
    exact ⟨Z, ρ, er, by rw [eg]; exact fun Z' H' q => h Z' H' σ q.ss q.er⟩
  | ok r ρ1 =>
    dsimp only at h; rw [eg] at h
    exact ⟨Z, ρ, er, by rw [eg]; exact fun Z' H' q v hv => retV_ok q hv h⟩
theorem sRetN : PS X (.Return none pos) (tS X.K w fun ρ => .ok (.rt (.fr .none)) ρ) := PS.imp ps_retN fun D σ H ⟨Z, ρ, er, h⟩ => h.now er _ .non
theorem sIf {gt : Env → Out Bool} {as bs : List Stmt} (hc : PT X c (tT X.K w gt)) (ha : PSs X as (tS X.K w g)) (hb : PSs X bs (tS X.K w g')) : PS X (.If c as bs pos) (tS X.K w fun ρ => (gt ρ).bind fun k ρ1 => if k then g ρ1 else g' ρ1) := by
  refine PS.imp (ps_if hc ha hb) fun D σ H ⟨Z, ρ, er, h⟩ => ⟨Z, ρ, er, h.test fun k Z1 H1 ρ1 p q => ?_⟩
  have q := q Z1 H1 p
  cases k with
  | true => exact iteT ⟨Z1, ρ1, p.er, q⟩
  | false => exact iteF ⟨Z1, ρ1, p.er, q⟩
/-- a new list is given to a slot -/
theorem ER.own {K : PySem.W.Frag} {Z H : Hp} {σ : St} {ρ : Env} {i : Nat} {a : Addr} {vs : List V} {ds : List PyData} (er : ER K Z H σ ρ) (hi : i < ρ.length) (h1 : H a = some (.lst vs)) (h2 : RvA K Z vs ds) (h3 : Z a = none) (h4 : ¬ isBx σ ρ a) :
    ER K Z H (σ.set i (some (.ref a))) (ρ.set i (.bx ds)) ∧ ∀ b, isBx (σ.set i (some (.ref a))) (ρ.set i (.bx ds)) b → isBx σ ρ b ∨ b = a := by
  have hiσ : i < σ.length := by rw [← er.len]; exact hi
  have lr : ∀ j, (ρ.set i (.bx ds))[j]? = if i = j then some (Sl.bx ds) else ρ[j]? := fun j => by
    rw [List.getElem?_set]
    by_cases z : i = j
    · subst z; simp [hi]
    · simp [z]
  have ls : ∀ j, (σ.set i (some (V.ref a)))[j]? = if i = j then some (some (V.ref a)) else σ[j]? := fun j => by
    rw [List.getElem?_set]
    by_cases z : i = j
    · subst z; simp [hiσ]
    · simp [z]
  refine ⟨⟨by rw [List.length_set, List.length_set]; exact er.len, er.sub, fun j e q => ?_, fun j es q => ?_, fun j ns q => ?_, fun j k es fs b q1 q2 q3 q4 => ?_⟩, fun b q => ?_⟩
  · rw [lr] at q
    rw [ls]
    by_cases y : i = j
    · simp [y] at q
    · simp only [y, if_false] at q ⊢
      exact er.fr j e q
  · rw [lr] at q
    rw [ls]
    by_cases y : i = j
    · simp only [y, if_true, Option.some.injEq, Sl.bx.injEq] at q ⊢
      subst q
      exact ⟨a, vs, rfl, h1, h2, h3⟩
    · simp only [y, if_false] at q ⊢
      exact er.bx j es q
  · rw [lr] at q
    rw [ls]
    by_cases y : i = j
    · simp [y] at q
    · simp only [y, if_false] at q ⊢
      exact er.scr j ns q
  · rw [lr] at q1 q2
    rw [ls] at q3 q4
    by_cases y1 : i = j <;> by_cases y2 : i = k
    · omega
    · exfalso
      simp only [y1, if_true, Option.some.injEq, V.ref.injEq] at q3
      subst q3
      simp only [y2, if_false] at q2 q4
      exact h4 ⟨k, fs, q2, q4⟩
    · exfalso
      simp only [y2, if_true, Option.some.injEq, V.ref.injEq] at q4
      subst q4
      simp only [y1, if_false] at q1 q3
      exact h4 ⟨j, es, q1, q3⟩
    · simp only [y1, y2, if_false] at q1 q2 q3 q4
      exact er.ne j k es fs b q1 q2 q3 q4
  · obtain ⟨j, es, q1, q2⟩ := q
    rw [lr] at q1
    rw [ls] at q2
    by_cases y : i = j
    · simp only [y, if_true, Option.some.injEq, V.ref.injEq] at q2
      exact .inr q2.symm
    · simp only [y, if_false] at q1 q2
      exact .inl ⟨j, es, q1, q2⟩
theorem setV_ok {K : PySem.W.Frag} {Z H Z1 H1 : Hp} {σ : St} {ρ ρ1 : Env} {D : Ends} {r : Vl} {v : V} {i : Nat} (hU : i ∉ w.U) (p : Pst K Z H σ ρ Z1 H1 ρ1) (hv : VR K H σ ρ Z1 H1 ρ1 v r) (h : So K w Z H σ ρ (setV i r ρ1) D) : D.nx (σ.set i (some v)) H1 := by
  unfold setV at h
  split at h
  · rename_i hi
    cases r with
    | fr d =>
      obtain ⟨q1, q2⟩ := p.er.put hi hv
      exact h Z1 H1 _ ⟨p.st.trans (.same q2), kp_set hU⟩ q1
    | ow ds =>
      obtain ⟨a, vs, rfl, h1, h2, h3, h4, h5⟩ := hv
      obtain ⟨q1, q2⟩ := p.er.own hi h1 h2 h3 h4
      refine h Z1 H1 _ ⟨⟨p.st.z, p.st.fr, p.st.nz, fun b q => ?_⟩, kp_set hU⟩ q1
      rcases q2 b q with z | rfl
      · exact p.st.nb b z
      · exact h5.symm
    | bx j =>
      have vl : VL K σ Z1 v (.bx j) := hv
      dsimp only at h
      cases e : (Vl.bx j).fz ρ1 with
      | stuck => rw [e] at h; exact h.elim
      | exc x r => exact (fz_noexc e).elim
      | ok d ρ2 =>
        rw [e] at h
        obtain ⟨Z2, p2, r2⟩ := fz_post p.er vl e
        have hl : i < ρ2.length := by rw [p2.er.len, ← p.er.len]; exact hi
        obtain ⟨q1, q2⟩ := p2.er.put hl r2
        exact h Z2 H1 _ ⟨(p.trans p2).st.trans (.same q2), kp_set hU⟩ q1
  · exact h.elim
theorem set_read {K : PySem.W.Frag} {D : Ends} {σ : St} {H : Hp} {i : Nat} (hU : i ∉ w.U) (h : tS K w (fun ρ => (ga ρ).bind fun v ρ1 => setV i v ρ1) D σ H) : tE K w ga σ H fun x H1 => gName i x σ H1 D.nx := by
  obtain ⟨Z, ρ, er, h⟩ := h
  cases eg : ga ρ with
  | stuck => dsimp only at h; rw [eg] at h; exact h.elim
  | exc x ρ1 =>
    dsimp only at h; rw [eg] at h
    exact ⟨Z, ρ, er, by rw [eg]; exact fun Z' H' q => h Z' H' σ q.ss q.er⟩
  | ok r ρ1 =>
    dsimp only at h; rw [eg] at h
    exact ⟨Z, ρ, er, by rw [eg]; exact fun Z' H' q v hv => setV_ok hU q hv h⟩
theorem sSet {i : Nat} {x : Str} {pos' : Pos} (hU : i ∉ w.U) (hN : X.N.Nodup) (hi : X.N[i]? = some x) (hx : Loc X.env.scope x) (hs : swapsWith e (some (.Name x pos')) pos.line X.env = pure false) (hf : X.fn x = true ∨ X.env.scope.names.lookup x = some .local) (he : PE X e (tE X.K w ga)) :
    PS X (.Assign [.Name x pos'] e pos) (tS X.K w fun ρ => (ga ρ).bind fun v ρ1 => setV i v ρ1) :=
  PS.imp (ps_set hN hi hx he hs hf) fun D σ H h => set_read hU h
end
end Wk
end T_WkL
section T_WkM
set_option maxHeartbeats 4000000
namespace Wk
open PySem PySem.Spec PyProof.Rows L2 RZ
section
variable {K : PySem.W.Frag} {w : Wi} {Z H Z1 H1 : Hp} {σ σ1 : St} {ρ ρ1 : Env} {D : Ends}
/-- o's own end: what a statement's expression leads to -/
theorem So.ofO {α : Type} {o : Option α} {f : α → Env → Out Fl} (h : So K w Z H σ ρ ((Out.ofO o ρ).bind f) D) : ∃ a, o = some a ∧ So K w Z H σ ρ (f a ρ) D := by
  cases o with
  | some a => exact ⟨a, rfl, h⟩
  | none => exact h.elim
/-- a new list stays ours while other things are worked out -/
theorem VR.keep {Z2 H2 : Hp} {ρ2 : Env} {v : V} {r : Vl} (h : VR K H σ ρ Z1 H1 ρ1 v r) (p : Pst K Z1 H1 σ ρ1 Z2 H2 ρ2) : VR K H σ ρ Z2 H2 ρ2 v r := by
  cases r with
  | fr d => exact Rv.mono p.st.z h
  | bx i => exact h
  | ow ds =>
    obtain ⟨a, vs, rfl, h1, h2, h3, h4, h5⟩ := h
    refine ⟨a, vs, rfl, p.st.fr a _ h1 h4, h2.mono p.st.z, ?_, fun q => ?_, h5⟩
    · cases e : Z2 a with
      | none => rfl
      | some o =>
        rcases p.st.nz a (by rw [e]; simp) with z | z | z
        · exact absurd h3 z
        · rw [h1] at z; cases z
        · exact absurd z h4
    · rcases p.st.nb a q with z | z
      · exact h4 z
      · rw [h1] at z; cases z
/-- any statement whose expression comes first -/
theorem tE_S {ga : Env → Out Vl} {f : Vl → Env → Out Fl} {Q : VK} (er : ER K Z H σ ρ) (h : So K w Z H σ ρ ((ga ρ).bind f) D)
    (k : ∀ r v Z1 H1 ρ1, Pst K Z H σ ρ Z1 H1 ρ1 → VR K H σ ρ Z1 H1 ρ1 v r → So K w Z H σ ρ (f r ρ1) D → Q v H1) : tE K w ga σ H Q := by
  refine ⟨Z, ρ, er, ?_⟩
  cases e : ga ρ with
  | stuck => rw [e] at h; exact h.elim
  | exc x ρ1 => rw [e] at h; exact fun Z' H' q => h Z' H' σ q.ss q.er
  | ok r ρ1 => rw [e] at h; exact fun Z' H' q v hv => k r v Z' H' ρ1 q hv h
/-- a value made to stand still -/
theorem VR.fz {r : Vl} {v : V} {d : PyData} {ρ2 : Env} (p : Pst K Z H σ ρ Z1 H1 ρ1) (hv : VR K H σ ρ Z1 H1 ρ1 v r) (e : r.fz ρ1 = .ok d ρ2) : ∃ Z2, Pst K Z H σ ρ Z2 H1 ρ2 ∧ Rv K Z2 v d := by
  obtain ⟨Z2, s, p2, vl⟩ := p.lay hv
  cases r with
  | ow ds => have e : Out.ok (PyData.list ds) ρ1 = .ok d ρ2 := e; cases e; exact ⟨Z2, p2, vl⟩
  | fr dd => obtain ⟨Z3, q, r⟩ := fz_post p2.er vl e; exact ⟨Z3, p2.trans q, r⟩
  | bx k => obtain ⟨Z3, q, r⟩ := fz_post p2.er vl e; exact ⟨Z3, p2.trans q, r⟩
theorem So.fz {r : Vl} {f : PyData → Env → Out Fl} (h : So K w Z H σ ρ ((r.fz ρ1).bind f) D) : ∃ d ρ2, r.fz ρ1 = .ok d ρ2 ∧ So K w Z H σ ρ (f d ρ2) D := by
  cases e : r.fz ρ1 with
  | stuck => rw [e] at h; exact h.elim
  | exc x ρ2 => exact (fz_noexc e).elim
  | ok d ρ2 => rw [e] at h; exact ⟨d, ρ2, rfl, h⟩
end
section
variable {X : Cx} {w : Wi} {a b c e tg iter elt : Expr} {ga gb gc : Env → Out Vl} {pos : Pos} {st : Stmt} {rest body : List Stmt} {g g' : Env → Out Fl}
/-- name = [..], on one line -/
theorem sSetLc {i : Nat} {y : Str} {py spos : Pos} {scope : Scope} {own : List (Str × Nat)} {ifs : List Expr} {gi : Env → Out (List PyData)} {gt : Env → Out Bool} {ge : Env → Out Vl} {t : Tg} (hU : i ∉ w.U) (hc : X.calm = true) (hN : X.N.Nodup) (hy : X.N[i]? = some y) (hyl : X.env.scope.names.lookup y = some .local)
    (hsw : swapsWith (.ListComp elt [⟨tg, iter, ifs, 0⟩] scope pos) (some (.Name y py)) spos.line X.env = pure true) (hsub : ∀ j ∈ t.slots, j ∈ own.map (·.2)) (hi : PI X tg iter (tI X.K w t.isTp gi)) (ok : BlkOk X.N X.env.scope scope own)
    (hg : ∀ (s : Shared) (H : Hp) (C : Addr) (cl : List (Str × Addr)) (fp : List Addr), PG (X.blk s H scope (compEnvC scope cl C X.env) fp) tg (tG X.K t))
    (ht : ∀ (s : Shared) (H : Hp) (C : Addr) (cl : List (Str × Addr)) (fp : List Addr), PTs (X.blk s H scope (compEnvC scope cl C X.env) fp) ifs (tT X.K (Wi.none w.cls) gt))
    (he : ∀ (s : Shared) (H : Hp) (C : Addr) (cl : List (Str × Addr)) (fp : List Addr), PE (X.blk s H scope (compEnvC scope cl C X.env) fp) elt (tE X.K (Wi.none w.cls) ge)) (hs : ∀ x, foldedSetIterable iter X.env x = pure x) :
    PS X (.Assign [.Name y py] (.ListComp elt [⟨tg, iter, ifs, 0⟩] scope pos) spos) (tS X.K w fun ρ => ((gi ρ).bind fun ds ρ1 => (cloop (own.map (·.2)) t gt (fun r => (ge r).bind fun v r1 => v.fz r1) ds [] (wipeE ρ1 (own.map (·.2)))).calm.bind fun xs ρ2 => .ok (.ow xs) (backE ρ1 ρ2 (own.map (·.2)))).bind fun v ρ1 => setV i v ρ1) :=
  PS.imp (ps_setLc hc hN hy hyl hsw hi ok hg ht he hs) fun D σ H h => lc_read hsub (set_read hU h)
/-- a row of names = e -/
theorem sSetT {t : Tg} (hU : ∀ i ∈ w.U, i ∉ t.slots) (he : PE X e (tE X.K w ga)) (hg : PG X tg (tG X.K t)) (hs : swapsWithSole [tg] e pos.line X.env = pure false) (hw : swappedStores [tg] e X.env = pure none) (h1 : (assignEach [tg] X.env).map (·.2) = [assign tg X.env]) :
    PS X (.Assign [tg] e pos) (tS X.K w fun ρ => (ga ρ).bind fun v ρ1 => (v.fz ρ1).bind fun d ρ2 => (Out.ofO (asg t d ρ2) ρ2).bind fun ρ3 _ => .ok .nx ρ3) := by
  refine PS.imp (ps_asg he hg hs hw h1) fun D σ H ⟨Z, ρ, er, h⟩ => tE_S er h fun r v Z1 H1 ρ1 p hv h1 => ?_
  obtain ⟨d, ρ2, e1, h2⟩ := So.fz h1
  obtain ⟨Z2, p2, hr⟩ := hv.fz p e1
  have h2 := h2.rebase p2.ss
  obtain ⟨ρ3, e3, h3⟩ := h2.ofO
  exact ⟨Z2, ρ2, d, ρ3, p2.er, .inl hr, e3, fun σ' tt => h3 Z2 H1 σ' ⟨.same tt.bx, fun i hi => tt.oth i (hU i hi)⟩ tt.er⟩
/-- o[k] = e, of a list that a slot holds -/
theorem sSetIx {i : Nat} {x : Str} {k : Expr} {p p3 : Pos} (hN : X.N[i]? = some x) (hv : Vis X.env.scope x) (hd : (x == ("__debug__" : Str)) = false) (hcd : (x == ("__classdict__" : Str)) = false) (hk : PE X k (tE X.K w gb)) (he : PE X e (tE X.K w ga)) (ha : ∀ v, assign (.Subscript (.Name x p) k p3) X.env v = (do
      let ov ← holding [v] (eval (.Name x p) X.env)
      let iv ← holding [v, ov] (eval k X.env)
      standAt p3
      holding [v, ov, iv] (setItem ov iv v)
      release [v, ov, iv] [])) (hs : swapsWithSole [.Subscript (.Name x p) k p3] e pos.line X.env = pure false) (hw : swappedStores [.Subscript (.Name x p) k p3] e X.env = pure none) (h1 : (assignEach [.Subscript (.Name x p) k p3] X.env).map (·.2) = [assign (.Subscript (.Name x p) k p3) X.env]) :
    PS X (.Assign [.Subscript (.Name x p) k p3] e pos) (tS X.K w fun ρ => (ga ρ).bind fun v ρ1 => (v.fz ρ1).bind fun d ρ2 => match ρ2[i]? with
      | some (.bx _) => (gb ρ2).bind fun u ρ3 => setIxV i d u ρ3
      | _ => .stuck) := by
  refine PS.imp (ps_asg he (pg_sub (pe_var (i := i) hN hv hd hcd) hk set_list ha) hs hw h1) fun D σ H ⟨Z, ρ, er, h⟩ => tE_S er h fun r v Z1 H1 ρ1 p hv h1 => ?_
  obtain ⟨d, ρ2, e1, h2⟩ := So.fz h1
  obtain ⟨Z2, p2, hr⟩ := hv.fz p e1
  have h2 := h2.rebase p2.ss
  split at h2
  · rename_i ds e2
    obtain ⟨a, vs, y1, y2, y3, y4⟩ := p2.er.bx i ds e2
    refine ⟨_, y1, tE_S p2.er h2 fun r3 v3 Z3 H3 ρ3 p3 hv3 h3 => ?_⟩
    obtain ⟨Z4, s4, p4, vl⟩ := p3.lay hv3
    have h3 := h3.rebase p4.ss
    unfold setIxV at h3
    split at h3
    · rename_i k ds3 e3 e4
      have q := p4.er.sh vl e3
      cases q
      obtain ⟨a', vs', z1, z2, z3, z4⟩ := p4.er.bx i ds3 e4
      rw [y1] at z1; cases z1
      split at h3
      · rename_i j e5
        have m := p4.er.mut e4 y1 (z3.set (hr.mono p4.st.z) j)
        exact ⟨a, vs', k, j, rfl, rfl, z2, by rw [z3.length, ← ixOf_eq]; exact e5, h3 Z4 _ σ m.ss m.er⟩
      · exact h3.elim
    · exact h3.elim
  · exact h2.elim
/-- a, b = x, y -/
theorem VR.unbx {K : PySem.W.Frag} {Z H Z1 H1 : Hp} {σ : St} {ρ ρ1 ρ2 : Env} {r r' : Vl} {v : V} (p : Pst K Z H σ ρ Z1 H1 ρ1) (hv : VR K H σ ρ Z1 H1 ρ1 v r) (e : unbx r ρ1 = .ok r' ρ2) : ∃ Z2, Pst K Z H σ ρ Z2 H1 ρ2 ∧ VR K H σ ρ Z2 H1 ρ2 v r' := by
  unfold Wk.unbx at e
  split at e
  · rename_i i
    obtain ⟨d, ρa, e1, e2⟩ := bind_ok' e
    cases e2
    obtain ⟨Z2, p2, hr⟩ := hv.fz p e1
    exact ⟨Z2, p2, hr⟩
  · cases e
    exact ⟨Z1, p, hv⟩
theorem So.unbx {K : PySem.W.Frag} {Z H : Hp} {σ : St} {ρ ρ1 : Env} {D : Ends} {r : Vl} {f : Vl → Env → Out Fl} (h : So K w Z H σ ρ ((unbx r ρ1).bind f) D) : ∃ r' ρ2, unbx r ρ1 = .ok r' ρ2 ∧ So K w Z H σ ρ (f r' ρ2) D := by
  cases e : Wk.unbx r ρ1 with
  | stuck => rw [e] at h; exact h.elim
  | exc x ρ2 =>
    exfalso
    unfold Wk.unbx at e
    split at e
    · rename_i i
      cases e1 : (Vl.bx i).fz ρ1 with
      | stuck => rw [e1] at e; cases e
      | exc x r => exact fz_noexc e1
      | ok d r => rw [e1] at e; cases e
    · cases e
  | ok r' ρ2 => rw [e] at h; exact ⟨r', ρ2, rfl, h⟩
/-- that a new list is this one -/
def OwnIs (r : Vl) (v : V) (b : Addr) : Prop := (∃ ds, r = .ow ds) ∧ v = .ref b
/-- a value, laid ready to be given to a slot -/
def VN (K : PySem.W.Frag) (Z H : Hp) (σ : St) (ρ : Env) (v : V) : Vl → Prop
  | .fr d => Rv K Z v d
  | .bx _ => False
  | .ow ds => ∃ a vs, v = .ref a ∧ H a = some (.lst vs) ∧ RvA K Z vs ds ∧ Z a = none ∧ ¬ isBx σ ρ a
theorem VR.vn {K : PySem.W.Frag} {Z1 H H1 : Hp} {σ : St} {ρ ρ1 : Env} {v : V} {r : Vl} (h : VR K H σ ρ Z1 H1 ρ1 v r) (nb : ∀ i, r ≠ .bx i) : VN K Z1 H1 σ ρ1 v r := by
  cases r with
  | fr d => exact h
  | bx i => exact absurd rfl (nb i)
  | ow ds => obtain ⟨a, vs, q1, q2, q3, q4, q5, _⟩ := h; exact ⟨a, vs, q1, q2, q3, q4, q5⟩
theorem VR.isNew {K : PySem.W.Frag} {Z1 H H1 : Hp} {σ : St} {ρ ρ1 : Env} {v : V} {r : Vl} {b : Addr} (h : VR K H σ ρ Z1 H1 ρ1 v r) (o : OwnIs r v b) : H b = none ∨ isBx σ ρ b := by
  obtain ⟨⟨ds, rfl⟩, rfl⟩ := o
  obtain ⟨a, vs, q1, _, _, _, _, q⟩ := h
  cases q1
  exact q
theorem VR.isOld {K : PySem.W.Frag} {Z1 H H1 : Hp} {σ : St} {ρ ρ1 : Env} {v : V} {r : Vl} {b : Addr} (h : VR K H σ ρ Z1 H1 ρ1 v r) (o : OwnIs r v b) : ¬ (H1 b = none ∨ isBx σ ρ1 b) := by
  obtain ⟨⟨ds, rfl⟩, rfl⟩ := o
  obtain ⟨a, vs, q1, q2, _, _, q3, _⟩ := h
  cases q1
  rintro (z | z)
  · rw [q2] at z; cases z
  · exact q3 z
theorem ER.give {K : PySem.W.Frag} {Z H : Hp} {σ : St} {ρ : Env} {v : V} {r : Vl} {i : Nat} {k : Env → Out Fl} {D : Ends} {Z0 H0 : Hp} {σ0 : St} {ρ0 : Env} (er : ER K Z H σ ρ) (h : VN K Z H σ ρ v r) (hp : So K w Z0 H0 σ0 ρ0 (putV i r ρ k) D) :
    ∃ ρ', So K w Z0 H0 σ0 ρ0 (k ρ') D ∧ ER K Z H (σ.set i (some v)) ρ' ∧ ∀ b, isBx (σ.set i (some v)) ρ' b → isBx σ ρ b ∨ OwnIs r v b := by
  unfold putV at hp
  split at hp
  · rename_i hi
    cases r with
    | bx j => exact h.elim
    | fr d =>
      obtain ⟨q1, q2⟩ := er.put hi h
      exact ⟨_, hp, q1, fun b q => .inl (q2 b q)⟩
    | ow ds =>
      obtain ⟨a, vs, rfl, h1, h2, h3, h4⟩ := h
      obtain ⟨q1, q2⟩ := er.own hi h1 h2 h3 h4
      exact ⟨_, hp, q1, fun b q => (q2 b q).imp id fun e => ⟨⟨ds, rfl⟩, by rw [e]⟩⟩
  · exact hp.elim
theorem VN.over {K : PySem.W.Frag} {Z H : Hp} {σ σ' : St} {ρ ρ' : Env} {v : V} {r : Vl} (h : VN K Z H σ ρ v r) (k : ∀ b, isBx σ' ρ' b → OwnIs r v b → isBx σ ρ b) : VN K Z H σ' ρ' v r := by
  cases r with
  | bx j => exact h.elim
  | fr d => exact h
  | ow ds =>
    obtain ⟨a, vs, rfl, h1, h2, h3, h4⟩ := h
    exact ⟨a, vs, rfl, h1, h2, h3, fun q => h4 (k a q ⟨⟨ds, rfl⟩, rfl⟩)⟩
theorem putV_nobx {i : Nat} {r : Vl} {ρ : Env} {k : Env → Out Fl} {K : PySem.W.Frag} {Z H : Hp} {σ : St} {ρ0 : Env} {D : Ends} (h : So K w Z H σ ρ0 (putV i r ρ k) D) (j : Nat) : r ≠ .bx j := by
  rintro rfl
  unfold putV at h
  split at h <;> exact h.elim
end
end Wk
end T_WkM
section T_WkN
set_option maxHeartbeats 4000000
namespace Wk
open PySem PySem.Spec PyProof.Rows L2 RZ
section
variable {X : Cx} {w : Wi} {a b c e tg iter elt : Expr} {ga gb gc : Env → Out Vl} {pos : Pos} {st : Stmt} {rest body : List Stmt} {g g' : Env → Out Fl}
theorem putV_cond {i : Nat} {r : Vl} {ρ : Env} {k : Env → Out Fl} {K : PySem.W.Frag} {Z H : Hp} {σ : St} {ρ0 : Env} {D : Ends} (h : So K w Z H σ ρ0 (putV i r ρ k) D) : ∃ ρ', So K w Z H σ ρ0 (k ρ') D := by
  unfold putV at h
  split at h
  · split at h
    · exact ⟨_, h⟩
    · exact ⟨_, h⟩
    · exact h.elim
  · exact h.elim
/-- an expression amid a statement -/
theorem tE_S2 {K : PySem.W.Frag} {Z0 H0 Z H : Hp} {σ : St} {ρ0 ρ : Env} {D : Ends} {ga : Env → Out Vl} {f : Vl → Env → Out Fl} {Q : VK} (q0 : Pst K Z0 H0 σ ρ0 Z H ρ) (h : So K w Z0 H0 σ ρ0 ((ga ρ).bind f) D)
    (k : ∀ r v Z1 H1 ρ1, Pst K Z H σ ρ Z1 H1 ρ1 → VR K H σ ρ Z1 H1 ρ1 v r → So K w Z0 H0 σ ρ0 (f r ρ1) D → Q v H1) : tE K w ga σ H Q := by
  refine ⟨Z, ρ, q0.er, ?_⟩
  cases e : ga ρ with
  | stuck => rw [e] at h; exact h.elim
  | exc x ρ1 => rw [e] at h; exact fun Z' H' q => h Z' H' σ (q0.trans q).ss q.er
  | ok r ρ1 => rw [e] at h; exact fun Z' H' q v hv => k r v Z' H' ρ1 q hv h
theorem new_back {K : PySem.W.Frag} {Z H Z1 H1 : Hp} {σ : St} {ρ ρ1 : Env} (p : Pst K Z H σ ρ Z1 H1 ρ1) {b : Addr} (h : H1 b = none ∨ isBx σ ρ1 b) : isBx σ ρ b ∨ H b = none := by
  rcases h with y | y
  · cases e9 : H b with
    | none => exact .inr rfl
    | some o => exact .inl (Classical.byContradiction fun q9 => by rw [p.st.fr b o e9 q9] at y; cases y)
  · exact p.st.nb b y
/-- a, b = x, y -/
theorem sPar {i j : Nat} {x y : Str} {px py pt : Pos} {kt k2 pt2} (hUi : i ∉ w.U) (hUj : j ∉ w.U) (hc : X.calm = true) (hN : X.N.Nodup) (hi : X.N[i]? = some x) (hj : X.N[j]? = some y) (hij : i ≠ j)
    (hx : X.env.scope.names.lookup x = some .local) (hy : X.env.scope.names.lookup y = some .local) (s1 : starEach [a, b] X.env = (false, eval a X.env) :: starEach [b] X.env) (s2 : starEach [b] X.env = (false, eval b X.env) :: starEach [] X.env) (ha : PE X a (tE X.K w ga)) (hb : PE X b (tE X.K w gb))
    (hw : swappedStores [.Tuple [.Name x px, .Name y py] kt pt] (.Tuple [a, b] k2 pt2) X.env = pure (some [x, y])) (hs : swapsWithSole [.Tuple [.Name x px, .Name y py] kt pt] (.Tuple [a, b] k2 pt2) pos.line X.env = pure false) :
    PS X (.Assign [.Tuple [.Name x px, .Name y py] kt pt] (.Tuple [a, b] k2 pt2) pos) (tS X.K w fun ρ => (ga ρ).bind fun v ρ1 => (unbx v ρ1).bind fun v' ρ2 => (gb ρ2).bind fun u ρ3 => (unbx u ρ3).bind fun u' ρ4 => putV i v' ρ4 fun ρ5 => putV j u' ρ5 fun ρ6 => .ok .nx ρ6) := by
  refine PS.imp (ps_par hc hN hi hj hij hx hy (pa_cons ha (pa_cons hb pa_nil s2) s1) hw hs) fun D σ H ⟨Z, ρ, er, h⟩ => tE_S er h fun r v Z1 H1 ρ1 p hv h1 => ?_
  obtain ⟨r', ρ2, e1, h2⟩ := So.unbx h1
  obtain ⟨Z2, p2, hv2⟩ := hv.unbx p e1
  refine tE_S2 p2 h2 fun r3 v3 Z3 H3 ρ3 p3 hv3 h3 => ?_
  obtain ⟨r3', ρ4, e3, h4⟩ := So.unbx h3
  obtain ⟨Z4, p4, hv4⟩ := hv3.unbx p3 e3
  have va := hv2.keep p4
  obtain ⟨ρa, ha'⟩ := putV_cond h4
  have na := va.vn fun j => putV_nobx h4 j
  have nb := hv4.vn fun j => putV_nobx ha' j
  obtain ⟨ρ5, h5, er5, bx5⟩ := p4.er.give na h4
  have nb5 : VN X.K Z4 H3 (σ.set i (some v)) ρ5 v3 r3' := nb.over fun b q o => by
    rcases bx5 b q with z | z
    · exact z
    · exact absurd (hv4.isNew o) (hv2.isOld z)
  obtain ⟨ρ6, h6, er6, bx6⟩ := er5.give nb5 h5
  have pp := p2.trans p4
  refine ⟨v, v3, rfl, h6 Z4 H3 _ ⟨⟨pp.st.z, pp.st.fr, pp.st.nz, fun b q => ?_⟩, fun m hm => (kp_set hUj m hm).trans (kp_set hUi m hm)⟩ er6⟩
  rcases bx6 b q with z | z
  · rcases bx5 b z with z | z
    · exact pp.st.nb b z
    · exact (hv2.isNew z).symm
  · exact new_back p2 (hv4.isNew z)
end
end Wk
end T_WkN
section T_WkO
set_option maxHeartbeats 4000000
namespace Wk
open PySem PySem.Spec PyProof.Rows L2 RZ
section
variable {X : Cx} {w : Wi} {a b c e tg iter elt : Expr} {ga gb gc : Env → Out Vl} {pos : Pos} {st : Stmt} {rest body : List Stmt} {g g' : Env → Out Fl}
/-- a, b, c = x, y, z with plain local names -/
def tPar3 (i j k : Nat) (ta : TA) : TS := fun D σ H => ta σ H fun vs H1 => ∃ v u z, vs = [v, u, z] ∧ D.nx (((σ.set i (some v)).set j (some u)).set k (some z)) H1
theorem ps_par3 {i j k : Nat} {x y n : Str} {ta : TA} {px py pn pt : Pos} {kt k2 pt2} (hc : X.calm = true) (hN : X.N.Nodup) (hi : X.N[i]? = some x) (hj : X.N[j]? = some y) (hk : X.N[k]? = some n) (hij : i ≠ j) (hik : i ≠ k) (hjk : j ≠ k)
    (hx : X.env.scope.names.lookup x = some .local) (hy : X.env.scope.names.lookup y = some .local) (hn : X.env.scope.names.lookup n = some .local) (ha : PA X [a, b, c] ta)
    (hw : swappedStores [.Tuple [.Name x px, .Name y py, .Name n pn] kt pt] (.Tuple [a, b, c] k2 pt2) X.env = pure (some [x, y, n]))
    (hs : swapsWithSole [.Tuple [.Name x px, .Name y py, .Name n pn] kt pt] (.Tuple [a, b, c] k2 pt2) pos.line X.env = pure false) :
    PS X (.Assign [.Tuple [.Name x px, .Name y py, .Name n pn] kt pt] (.Tuple [a, b, c] k2 pt2) pos) (tPar3 i j k ta) := by
  refine ⟨fun pins s σ H D I h => ?_⟩
  rw [exec_Assign_arm]
  refine wpAny_bind (wpAny_standAt ?_)
  rw [hs]
  refine wpAny_bind (wpAny_pure ?_)
  rw [if_neg (by decide)]
  refine wpAny_bind (Tuple_ (thn (ha.run _ pins s σ H _ I h) fun us s1 ⟨vs, H1, I1, r1, q1⟩ => ?_))
  obtain ⟨v, w, z, e1, q1⟩ := q1
  subst e1
  obtain ⟨u1, u2, u3, rfl, rv, rw', rz⟩ : ∃ u1 u2 u3, us = [u1, u2, u3] ∧ RelV v u1 ∧ RelV w u2 ∧ RelV z u3 := by
    cases r1 with
    | cons p q =>
      cases q with
      | cons p' q' =>
        cases q' with
        | cons p'' q'' =>
          cases q''
          exact ⟨_, _, _, rfl, p, p', p''⟩
  refine wpAny_newObj_type ?_ (by show 3 ≤ sizeLine; decide)
  have I2 : Inv X pins σ H1 { s1 with heap := s1.heap.push { cls := .type "tuple", data := .seq [u1, u2, u3].toArray } } := I1.kept (t' := s1.toks) fun b o e => Heap.get?_push_of_some _ e
  rw [hw]
  refine wpAny_bind (wpAny_pure ?_)
  show wpAny (model X.prog X.w) X.A (do rule "assign.swapped-stores"; let items ← unpackItems (.ref s1.heap.objs.size) 3 none; assignInOrder [fun v => bindName X.env n v, fun v => bindName X.env y v, fun v => bindName X.env x v] items.reverse; pure Flow.next) _ _ _
  refine wpAny_bind (wpAny_rule (wpAny_bind (unpackItems_tuple (items := #[u1, u2, u3]) (I.ok.hd hc) (IsTup.new s1.heap _) fun h' hx' => ?_)))
  have I3 := I2.kept (h' := h') (t' := s1.toks) fun b o e => hx' b o (Nat.ne_of_lt (Heap.lt_size e)) e
  show wpAny _ _ (assignInOrder [fun v => bindName X.env n v, fun v => bindName X.env y v, fun v => bindName X.env x v] [u3, u2, u1] >>= fun _ => pure Flow.next) _ _ _
  refine wpAny_bind (assignInOrder_cons (wpAny_bindName (store_ok I3 hN hk (.inl hn) rz (fun s2 I4 => ?_) (.inr hn))))
  refine assignInOrder_cons (wpAny_bindName (store_ok I4 hN hj (.inl hy) rw' (fun s3 I5 => ?_) (.inr hy)))
  refine assignInOrder_cons (wpAny_bindName (store_ok I5 hN hi (.inl hx) rv (fun s4 I6 => assignInOrder_nil (wpAny_pure ?_)) (.inr hx)))
  rw [List.set_comm _ _ hjk.symm, List.set_comm _ _ hik.symm, List.set_comm _ _ hij.symm] at I6
  exact ⟨_, H1, I6, q1⟩
theorem sPar3 {i j k : Nat} {x y n : Str} {px py pn pt : Pos} {kt k2 pt2} (hUi : i ∉ w.U) (hUj : j ∉ w.U) (hUk : k ∉ w.U) (hc : X.calm = true) (hN : X.N.Nodup) (hi : X.N[i]? = some x) (hj : X.N[j]? = some y) (hk : X.N[k]? = some n) (hij : i ≠ j) (hik : i ≠ k) (hjk : j ≠ k)
    (hx : X.env.scope.names.lookup x = some .local) (hy : X.env.scope.names.lookup y = some .local) (hn : X.env.scope.names.lookup n = some .local)
    (s1 : starEach [a, b, c] X.env = (false, eval a X.env) :: starEach [b, c] X.env) (s2 : starEach [b, c] X.env = (false, eval b X.env) :: starEach [c] X.env) (s3 : starEach [c] X.env = (false, eval c X.env) :: starEach [] X.env) (ha : PE X a (tE X.K w ga)) (hb : PE X b (tE X.K w gb)) (hcc : PE X c (tE X.K w gc))
    (hw : swappedStores [.Tuple [.Name x px, .Name y py, .Name n pn] kt pt] (.Tuple [a, b, c] k2 pt2) X.env = pure (some [x, y, n]))
    (hs : swapsWithSole [.Tuple [.Name x px, .Name y py, .Name n pn] kt pt] (.Tuple [a, b, c] k2 pt2) pos.line X.env = pure false) :
    PS X (.Assign [.Tuple [.Name x px, .Name y py, .Name n pn] kt pt] (.Tuple [a, b, c] k2 pt2) pos) (tS X.K w fun ρ => (ga ρ).bind fun v ρ1 => (unbx v ρ1).bind fun v' ρ2 => (gb ρ2).bind fun u ρ3 => (unbx u ρ3).bind fun u' ρ4 => (gc ρ4).bind fun z ρ5 => (unbx z ρ5).bind fun z' ρ6 => putV i v' ρ6 fun ρ7 => putV j u' ρ7 fun ρ8 => putV k z' ρ8 fun ρ9 => .ok .nx ρ9) := by
  refine PS.imp (ps_par3 hc hN hi hj hk hij hik hjk hx hy hn (pa_cons ha (pa_cons hb (pa_cons hcc pa_nil s3) s2) s1) hw hs) fun D σ H ⟨Z, ρ, er, h⟩ => tE_S er h fun r v Z1 H1 ρ1 p hv h1 => ?_
  obtain ⟨r', ρ2, e1, h2⟩ := So.unbx h1
  obtain ⟨Z2, p2, hv2⟩ := hv.unbx p e1
  refine tE_S2 p2 h2 fun r3 v3 Z3 H3 ρ3 p3 hv3 h3 => ?_
  obtain ⟨r3', ρ4, e3, h4⟩ := So.unbx h3
  obtain ⟨Z4, p4, hv4⟩ := hv3.unbx p3 e3
  have pp := p2.trans p4
  refine tE_S2 pp h4 fun r5 v5 Z5 H5 ρ5 p5 hv5 h5 => ?_
  obtain ⟨r5', ρ6, e5, h6⟩ := So.unbx h5
  obtain ⟨Z6, p6, hv6⟩ := hv5.unbx p5 e5
  have ppp := pp.trans p6
  obtain ⟨ρa, ha'⟩ := putV_cond h6
  obtain ⟨ρb, hb'⟩ := putV_cond ha'
  have va := (hv2.keep p4).keep p6
  have vb := hv4.keep p6
  have na := va.vn fun j => putV_nobx h6 j
  have nb := vb.vn fun j => putV_nobx ha' j
  have nc := hv6.vn fun j => putV_nobx hb' j
  obtain ⟨ρ7, h7, er7, bx7⟩ := p6.er.give na h6
  have ab : ∀ b, OwnIs r' v b → OwnIs r3' v3 b → False := fun b o1 o2 => hv2.isOld o1 (hv4.isNew o2)
  have ac : ∀ b, OwnIs r' v b → OwnIs r5' v5 b → False := fun b o1 o2 => (hv2.keep p4).isOld o1 (hv6.isNew o2)
  have bc : ∀ b, OwnIs r3' v3 b → OwnIs r5' v5 b → False := fun b o1 o2 => hv4.isOld o1 (hv6.isNew o2)
  have nb7 := nb.over (σ' := σ.set i (some v)) (ρ' := ρ7) fun b q o => (bx7 b q).elim id fun z => (ab b z o).elim
  obtain ⟨ρ8, h8, er8, bx8⟩ := er7.give nb7 h7
  have nc8 := nc.over (σ' := (σ.set i (some v)).set j (some v3)) (ρ' := ρ8) fun b q o => (bx8 b q).elim (fun z => (bx7 b z).elim id fun z => (ac b z o).elim) fun z => (bc b z o).elim
  obtain ⟨ρ9, h9, er9, bx9⟩ := er8.give nc8 h8
  refine ⟨v, v3, v5, rfl, h9 Z6 H5 _ ⟨⟨ppp.st.z, ppp.st.fr, ppp.st.nz, fun b q => ?_⟩, fun m hm => ((kp_set hUk m hm).trans (kp_set hUj m hm)).trans (kp_set hUi m hm)⟩ er9⟩
  rcases bx9 b q with z | z
  · rcases bx8 b z with z | z
    · rcases bx7 b z with z | z
      · exact ppp.st.nb b z
      · exact (hv2.isNew z).symm
    · exact new_back p2 (hv4.isNew z)
  · exact new_back pp (hv6.isNew z)
end
/-! ### loops -/
section
variable {K : PySem.W.Frag} {w : Wi} {Z H Z1 H1 : Hp} {σ σ1 : St} {ρ ρ1 : Env} {D : Ends}
/-- a loop's body: what it comes to -/
theorem So.turn {o : Out Fl} {f : Env → Out Fl} {N : St → Hp → Prop} (h : So K w Z H σ ρ (o.bind fun f' ρ2 => match f' with
      | .nx => f ρ2
      | .ct => f ρ2
      | .bk => .ok .nx ρ2
      | .rt v => .ok (.rt v) ρ2) D) (k : ∀ Z' H' σ' ρ', Sst w Z H σ ρ Z' H' σ' ρ' → ER K Z' H' σ' ρ' → So K w Z' H' σ' ρ' (f ρ') D → N σ' H') : So K w Z H σ ρ o { D with nx := N, ct := N, bk := D.nx } := by
  cases o with
  | stuck => exact h
  | exc x ρ' => exact h
  | ok f' ρ' =>
    intro Z' H' σ' s er
    cases f' with
    | nx => exact k Z' H' σ' ρ' s er (So.rebase (by exact h) s)
    | ct => exact k Z' H' σ' ρ' s er (So.rebase (by exact h) s)
    | bk => exact h Z' H' σ' s er
    | rt r => exact h Z' H' σ' s er
end
section
variable {X : Cx} {w : Wi} {c tg iter : Expr} {pos : Pos} {body : List Stmt} {g : Env → Out Fl}
theorem sFor {gi : Env → Out (List PyData)} {t : Tg} (hU : ∀ i ∈ w.U, i ∉ t.slots) (hp : PassesOwn (model X.prog X.w) X.A X.env X.xe) (hc : X.calm = true) (hi : PI X tg iter (tI X.K w t.isTp gi)) (hg : PG X tg (tG X.K t)) (hb : PSs X body (tS X.K w g)) (hs : ∀ x, foldedSetIterable iter X.env x = pure x) :
    PS X (.For tg iter body [] pos) (tS X.K w fun ρ => (gi ρ).bind fun ds ρ1 => floop t g ds ρ1) := by
  refine PS.imp (ps_for hp hc hi hg hb hs) fun D σ H ⟨Z, ρ, er, h⟩ => ⟨Z, ρ, er, h.iter fun ds Z1 H1 ρ1 p1 hk J it => ?_⟩
  have h1 := hk Z1 H1 p1
  refine ⟨fun i m σ' H' => m = ds.length - i ∧ i ≤ ds.length ∧ ∃ Z' ρ', Same Z1 Z' ∧ ER X.K Z' H' σ' ρ' ∧ So X.K w Z' H' σ' ρ' (floop t g (ds.drop i) ρ') D, ⟨ds.length, by simp, Nat.zero_le _, Z1, ρ1, .refl _, p1.er, h1⟩, fun i m σ' H' hW => ?_⟩
  obtain ⟨rfl, hi, Z', ρ', sz, er', h'⟩ := hW
  by_cases hlt : i < ds.length
  · refine .inr ⟨it.go i H' (sz.trans er'.sub) hlt, fun σ'' H'' => i + 1 ≤ ds.length ∧ ∃ Z' ρ', Same Z1 Z' ∧ ER X.K Z' H'' σ'' ρ' ∧ So X.K w Z' H'' σ'' ρ' (floop t g (ds.drop (i + 1)) ρ') D, fun σ'' H'' q => ⟨_, by omega, rfl, q⟩, fun x H2 hy => ?_⟩
    obtain ⟨Z2, d, ex, hd, hr⟩ := it.yl i Z' H' x H2 sz er'.sub hlt hy
    have ed : ds.drop i = d :: ds.drop (i + 1) := by
      rw [List.drop_eq_getElem_cons hlt]
      rw [List.getElem?_eq_getElem hlt] at hd
      cases hd; rfl
    rw [ed] at h'
    unfold floop at h'
    obtain ⟨ρa, e2, e3⟩ := h'.ofO
    refine ⟨Z2, ρ', d, ρa, er'.ext ex, hr, e2, fun σa ta => ⟨Z2, ρa, ta.er, ?_⟩⟩
    have st : Sst w Z' H' σ' ρ' Z2 H2 σa ρa := ⟨ex.step.trans (.same ta.bx), fun i hi => ta.oth i (hU i hi)⟩
    exact (e3.rebase st).turn fun Z3 H3 σ3 ρ3 s er3 h3 => ⟨hlt, Z3, ρ3, (sz.trans ex.z).trans s.st.z, er3, h3⟩
  · have ei : i = ds.length := by omega
    subst ei
    rw [List.drop_length] at h'
    exact .inl ⟨it.st _ H' (sz.trans er'.sub) (Nat.le_refl _), h'.now er'⟩
theorem sWhl {gt : Env → Out Bool} (hp : PassesOwn (model X.prog X.w) X.A X.env X.xe) (hc : PT X c (tT X.K w gt)) (hb : PSs X body (tS X.K w g)) :
    PS X (.While c body [] pos) (tS X.K w fun ρ => wloop gt g ρ) := by
  refine PS.imp (ps_while hp hc hb) fun D σ H ⟨Z, ρ, er, h⟩ => ?_
  have h : So X.K w Z H σ ρ (wloop gt g ρ) D := h
  have ns : wloop gt g ρ ≠ .stuck := fun e => by rw [e] at h; exact h.elim
  obtain ⟨n, en⟩ := wloop_ends ns
  refine ⟨fun m σ' H' => ∃ Z' ρ' r, ER X.K Z' H' σ' ρ' ∧ wloopN gt g m ρ' = some r ∧ So X.K w Z' H' σ' ρ' r D, ⟨n, Z, ρ, _, er, en, h⟩, fun m σ' H' hW => ?_⟩
  obtain ⟨Z', ρ', r, er', e, h'⟩ := hW
  cases m with
  | zero => cases e
  | succ m =>
    unfold wloopN at e
    refine ⟨Z', ρ', er', ?_⟩
    cases ec : gt ρ' with
    | stuck => rw [ec] at e; cases e; exact h'.elim
    | exc x ρ1 => rw [ec] at e; cases e; exact fun Z2 H2 q => h' Z2 H2 σ' q.ss q.er
    | ok k ρ1 =>
      rw [ec] at e
      intro Z2 H2 p2
      cases k with
      | false =>
        cases e
        rw [if_neg Bool.false_ne_true]
        exact (h'.rebase p2.ss).now p2.er
      | true =>
        rw [if_pos rfl]
        refine ⟨fun σ'' H'' => ∃ Z' ρ' r, ER X.K Z' H'' σ'' ρ' ∧ wloopN gt g m ρ' = some r ∧ So X.K w Z' H'' σ'' ρ' r D, fun σ'' H'' q => ⟨m, Nat.lt_succ_self m, q⟩, ⟨Z2, ρ1, p2.er, ?_⟩⟩
        dsimp only at e
        have h2 := h'.rebase p2.ss
        cases eb : g ρ1 with
        | stuck => rw [eb] at e; cases e; exact h2.elim
        | exc x ρ2 => rw [eb] at e; cases e; exact h2
        | ok f ρ2 =>
          rw [eb] at e
          intro Z3 H3 σ3 s3 er3
          cases f with
          | nx => exact ⟨Z3, ρ2, r, er3, e, h2.rebase s3⟩
          | ct => exact ⟨Z3, ρ2, r, er3, e, h2.rebase s3⟩
          | bk => cases e; exact h2 Z3 H3 σ3 s3 er3
          | rt v => cases e; exact h2 Z3 H3 σ3 s3 er3
end
end Wk
end T_WkO
section T_WkP
set_option maxHeartbeats 4000000
namespace Wk
open PySem PySem.Spec PyProof.Rows L2 RZ
/-! ### calls of the text's own defs -/
/-- what a def's call leads to -/
def spF (K : PySem.W.Frag) (cls : Exn → Option Value) (F : FnV) : Sp := fun vs H Q E => ∃ Z as, ER K Z H (vs.map some) as ∧ (match F as with
  | .ok r as' => ∀ Z' H', Step Z H (vs.map some) as Z' H' (vs.map some) as' → ER K Z' H' (vs.map some) as' → ∀ v, VS K H (vs.map some) as Z' H' (vs.map some) as' v r → Q v H'
  | .exc x as' => ∀ Z' H', Step Z H (vs.map some) as Z' H' (vs.map some) as' → ER K Z' H' (vs.map some) as' → ∃ c, cls x = some c ∧ E c none H'
  | .stuck => False)
section
variable {K : PySem.W.Frag} {w : Wi} {Z H Z1 H1 : Hp} {σ : St} {ρ ρ1 : Env}
theorem argSl_look : ∀ {vs : List Vl} {ss : List Sl}, argSl ρ vs = some ss → ss.length = vs.length ∧ ∀ (i : Nat) (s : Sl), ss[i]? = some s → ∃ v, vs[i]? = some v ∧ toSl v ρ = some s
  | [], ss, h => by
    unfold argSl at h
    cases h
    exact ⟨rfl, fun i s h => by simp at h⟩
  | v :: vs, ss, h => by
    unfold argSl at h
    split at h
    · rename_i s r e1 e2
      cases h
      obtain ⟨hl, k⟩ := argSl_look e2
      refine ⟨by simp [hl], fun i s' h => ?_⟩
      cases i with
      | zero => simp at h; subst h; exact ⟨v, rfl, e1⟩
      | succ i => exact k i s' (by simpa using h)
    · cases h
theorem VLs.length : ∀ {vals : List V} {vs : List Vl}, VLs K σ Z vals vs → vals.length = vs.length
  | _, _, .nil => rfl
  | _, _, .cons _ r => by simp [VLs.length r]
theorem VLs.get : ∀ {vals : List V} {vs : List Vl} {i : Nat} {r : Vl}, VLs K σ Z vals vs → vs[i]? = some r → ∃ v, vals[i]? = some v ∧ VL K σ Z v r
  | _, _, _, _, .nil, e => by simp at e
  | _, _, 0, _, .cons h _, e => by simp at e; subst e; exact ⟨_, rfl, h⟩
  | _, _, i + 1, _, .cons _ t, e => by
    obtain ⟨v, h1, h2⟩ := VLs.get (i := i) t (by simpa using e)
    exact ⟨v, by simpa using h1, h2⟩
theorem mem_bxs : ∀ {vs : List Vl} {i j : Nat}, vs[i]? = some (.bx j) → j ∈ bxs vs
  | [], _, _, h => by simp at h
  | v :: vs, 0, j, h => by simp at h; subst h; simp [bxs]
  | v :: vs, i + 1, j, h => by
    have := mem_bxs (vs := vs) (i := i) (by simpa using h)
    cases v <;> simp [bxs, this]
theorem bxs_mem : ∀ {vs : List Vl} {j : Nat}, j ∈ bxs vs → ∃ i : Nat, vs[i]? = some (Vl.bx j)
  | [], _, h => by simp [bxs] at h
  | v :: vs, j, h => by
    cases v with
    | bx k =>
      rcases List.mem_cons.mp (show j ∈ k :: bxs vs from h) with rfl | q
      · exact ⟨0, rfl⟩
      · obtain ⟨i, e⟩ := bxs_mem q; exact ⟨i + 1, by simpa using e⟩
    | fr d => obtain ⟨i, e⟩ := bxs_mem (show j ∈ bxs vs from h); exact ⟨i + 1, by simpa using e⟩
    | ow d => obtain ⟨i, e⟩ := bxs_mem (show j ∈ bxs vs from h); exact ⟨i + 1, by simpa using e⟩
theorem bxs_one : ∀ {vs : List Vl} {i k j : Nat}, (bxs vs).Nodup → vs[i]? = some (.bx j) → vs[k]? = some (.bx j) → i = k
  | [], _, _, _, _, h, _ => by simp at h
  | v :: vs, i, k, j, nd, h1, h2 => by
    have nd' : (bxs vs).Nodup := by cases v <;> first | exact nd | exact (List.nodup_cons.mp nd).2
    have no : v = Vl.bx j → ∀ m : Nat, vs[m]? ≠ some (Vl.bx j) := by
      rintro rfl m hm
      exact (List.nodup_cons.mp nd).1 (mem_bxs hm)
    cases i with
    | zero =>
      cases k with
      | zero => rfl
      | succ k => exact absurd (by simpa using h2) (no (by simpa using h1) k)
    | succ i =>
      cases k with
      | zero => exact absurd (by simpa using h1) (no (by simpa using h2) i)
      | succ k =>
        have := bxs_one (i := i) (k := k) (j := j) nd' (by simpa using h1) (by simpa using h2)
        rw [this]
theorem putSl_len : ∀ {vs : List Vl} {ss : List Sl} {ρ : Env}, (putSl ρ vs ss).length = ρ.length
  | [], _, _ => by unfold putSl; rfl
  | v :: vs, [], _ => by cases v <;> (unfold putSl; rfl)
  | v :: vs, s :: ss, ρ => by
    cases v with
    | bx i => show (putSl (ρ.set i s) vs ss).length = _; rw [putSl_len, List.length_set]
    | fr d => exact putSl_len (vs := vs) (ss := ss)
    | ow d => exact putSl_len (vs := vs) (ss := ss)
theorem putSl_out : ∀ {vs : List Vl} {ss : List Sl} {ρ : Env} {j : Nat}, j ∉ bxs vs → (putSl ρ vs ss)[j]? = ρ[j]?
  | [], _, _, _, _ => by unfold putSl; rfl
  | v :: vs, [], _, _, _ => by cases v <;> (unfold putSl; rfl)
  | v :: vs, s :: ss, ρ, j, h => by
    cases v with
    | bx i =>
      have h' : j ≠ i ∧ j ∉ bxs vs := by simpa [bxs] using h
      show (putSl (ρ.set i s) vs ss)[j]? = _
      rw [putSl_out h'.2, List.getElem?_set_ne h'.1.symm]
    | fr d => exact putSl_out (vs := vs) (ss := ss) h
    | ow d => exact putSl_out (vs := vs) (ss := ss) h
theorem putSl_in : ∀ {vs : List Vl} {ss : List Sl} {ρ : Env} {i j : Nat} {s : Sl}, (bxs vs).Nodup → j < ρ.length → vs[i]? = some (.bx j) → ss[i]? = some s → (putSl ρ vs ss)[j]? = some s
  | [], _, _, _, _, _, _, _, h, _ => by simp at h
  | v :: vs, [], _, _, _, _, _, _, _, h => by simp at h
  | v :: vs, s' :: ss, ρ, 0, j, s, nd, hj, h1, h2 => by
    simp at h1 h2
    subst h1 h2
    show (putSl (ρ.set j s') vs ss)[j]? = _
    rw [putSl_out (List.nodup_cons.mp nd).1, List.getElem?_set_self (by simpa using hj)]
  | v :: vs, s' :: ss, ρ, i + 1, j, s, nd, hj, h1, h2 => by
    have nd' : (bxs vs).Nodup := by cases v <;> first | exact nd | exact (List.nodup_cons.mp nd).2
    cases v with
    | bx k => exact putSl_in (vs := vs) (ss := ss) (ρ := ρ.set k s') nd' (by simpa using hj) (by simpa using h1) (by simpa using h2)
    | fr d => exact putSl_in (vs := vs) (ss := ss) nd' hj (by simpa using h1) (by simpa using h2)
    | ow d => exact putSl_in (vs := vs) (ss := ss) nd' hj (by simpa using h1) (by simpa using h2)
/-- the arguments' slots, the callee's -/
theorem args_er {vals : List V} {vs : List Vl} {ss : List Sl} (er : ER K Z H σ ρ) (hv : VLs K σ Z vals vs) (nd : (bxs vs).Nodup) (e : argSl ρ vs = some ss) :
    ER K Z H (vals.map some) ss ∧ ∀ a, isBx (vals.map some) ss a → ∃ (i j : Nat) (ds : List D), vs[i]? = some (.bx j) ∧ ρ[j]? = some (Sl.bx ds) ∧ σ[j]? = some (some (V.ref a)) ∧ ss[i]? = some (Sl.bx ds) ∧ vals[i]? = some (V.ref a) := by
  obtain ⟨hl, look⟩ := argSl_look e
  have hl2 := hv.length
  have mp : ∀ i (v : V), vals[i]? = some v → (vals.map some)[i]? = some (some v) := fun i v h => by rw [List.getElem?_map, h]; rfl
  have pm : ∀ i (v : V), (vals.map some)[i]? = some (some v) → vals[i]? = some v := fun i v h => by
    rw [List.getElem?_map] at h
    cases q : vals[i]? with
    | none => rw [q] at h; cases h
    | some u => rw [q] at h; cases h; rfl
  have bxi : ∀ i ds, ss[i]? = some (Sl.bx ds) → ∃ (j : Nat) (v : V), vs[i]? = some (Vl.bx j) ∧ ρ[j]? = some (Sl.bx ds) ∧ σ[j]? = some (some v) ∧ vals[i]? = some v := fun i ds h => by
    obtain ⟨r, h1, h2⟩ := look i _ h
    obtain ⟨v, h3, h4⟩ := hv.get h1
    cases r with
    | fr d => cases h2
    | ow d => cases h2
    | bx j => exact ⟨j, v, h1, h2, h4, h3⟩
  refine ⟨⟨by rw [List.length_map, hl, hl2], er.sub, fun i d h => ?_, fun i ds h => ?_, fun i ns h => ?_, fun i k ds es a h1 h2 h3 h4 => ?_⟩, fun a ⟨i, ds, h1, h2⟩ => ?_⟩
  · obtain ⟨r, h1, h2⟩ := look i _ h
    obtain ⟨v, h3, h4⟩ := hv.get h1
    refine ⟨v, mp i v h3, ?_⟩
    cases r with
    | fr d' => cases h2; exact h4
    | ow ds => exact h4.elim
    | bx j =>
      obtain ⟨u, q1, q2⟩ := er.fr j d h2
      have h4 : σ[j]? = some (some v) := h4
      rw [h4] at q1; cases q1
      exact q2
  · obtain ⟨j, v, q1, q2, q3, q4⟩ := bxi i ds h
    obtain ⟨a, ws, y1, y2, y3, y4⟩ := er.bx j ds q2
    rw [q3] at y1; cases y1
    exact ⟨a, ws, mp i _ q4, y2, y3, y4⟩
  · obtain ⟨r, h1, h2⟩ := look i _ h
    obtain ⟨v, h3, h4⟩ := hv.get h1
    cases r with
    | fr d' => cases h2
    | ow ds => exact h4.elim
    | bx j =>
      obtain ⟨a, q1, q2⟩ := er.scr j ns h2
      have h4 : σ[j]? = some (some v) := h4
      rw [h4] at q1; cases q1
      exact ⟨a, mp i _ h3, q2⟩
  · obtain ⟨j, v, q1, q2, q3, q4⟩ := bxi i ds h1
    obtain ⟨m, u, y1, y2, y3, y4⟩ := bxi k es h2
    have e1 := pm _ _ h3
    have e2 := pm _ _ h4
    rw [q4] at e1; cases e1
    rw [y4] at e2; cases e2
    have := er.ne j m ds es a q2 y2 q3 y3
    subst this
    exact bxs_one nd q1 y1
  · obtain ⟨j, v, q1, q2, q3, q4⟩ := bxi i ds h1
    have e1 := pm _ _ h2
    rw [q4] at e1; cases e1
    exact ⟨i, j, ds, q1, q2, q3, h1, q4⟩
/-- behind the call -/
theorem back_er {vals : List V} {vs : List Vl} {ss ss' : List Sl} {Z' H' : Hp} (er : ER K Z H σ ρ) (hv : VLs K σ Z vals vs) (nd : (bxs vs).Nodup) (e : argSl ρ vs = some ss)
    (st : Step Z H (vals.map some) ss Z' H' (vals.map some) ss') (er' : ER K Z' H' (vals.map some) ss') : Pst K Z H σ ρ Z' H' (putSl ρ vs ss') := by
  obtain ⟨ea, ba⟩ := args_er er hv nd e
  obtain ⟨hl, look⟩ := argSl_look e
  have hl' : ss'.length = vs.length := by rw [er'.len, ← ea.len, hl]
  have toB : ∀ a, isBx (vals.map some) ss a → isBx σ ρ a := fun a h => let ⟨i, j, ds, _, h2, h3, _⟩ := ba a h; ⟨j, ds, h2, h3⟩
  have mp : ∀ i (v : V), vals[i]? = some v → (vals.map some)[i]? = some (some v) := fun i v h => by rw [List.getElem?_map, h]; rfl
  have lt : ∀ (i j : Nat), vs[i]? = some (Vl.bx j) → j < ρ.length := fun i j h => by
    obtain ⟨v, _, h2⟩ := hv.get h
    have h2 : σ[j]? = some (some v) := h2
    rw [er.len]
    exact (List.getElem?_eq_some_iff.mp h2).1
  -- a slot behind the call
  have inv : ∀ (j : Nat) (s : Sl), (putSl ρ vs ss')[j]? = some s → (j ∉ bxs vs ∧ ρ[j]? = some s) ∨ ∃ (i : Nat) (v : V), vs[i]? = some (Vl.bx j) ∧ ss'[i]? = some s ∧ σ[j]? = some (some v) ∧ (vals.map some)[i]? = some (some v) := fun j s h => by
    by_cases hj : j ∈ bxs vs
    · obtain ⟨i, hi⟩ := bxs_mem hj
      have hlt : i < ss'.length := by rw [hl']; exact (List.getElem?_eq_some_iff.mp hi).1
      have e1 := putSl_in nd (lt i j hi) hi (List.getElem?_eq_getElem hlt)
      rw [e1] at h
      obtain ⟨v, h3, h4⟩ := hv.get hi
      exact .inr ⟨i, v, hi, by rw [← h]; exact List.getElem?_eq_getElem hlt, h4, mp i v h3⟩
    · rw [putSl_out hj] at h
      exact .inl ⟨hj, h⟩
  have toA : ∀ a, isBx σ (putSl ρ vs ss') a → (∃ (j : Nat) (ds : List D), j ∉ bxs vs ∧ ρ[j]? = some (Sl.bx ds) ∧ σ[j]? = some (some (V.ref a))) ∨ isBx (vals.map some) ss' a := fun a ⟨j, ds, h1, h2⟩ => by
    rcases inv j _ h1 with ⟨q1, q2⟩ | ⟨i, v, q1, q2, q3, q4⟩
    · exact .inl ⟨j, ds, q1, q2, h2⟩
    · rw [h2] at q3; cases q3
      exact .inr ⟨i, ds, q2, q4⟩
  -- a box that is no argument's
  have apart : ∀ (j : Nat) (ds : List D) (a : Addr), j ∉ bxs vs → ρ[j]? = some (Sl.bx ds) → σ[j]? = some (some (V.ref a)) → ¬ isBx (vals.map some) ss a := fun j ds a hj h1 h2 q => by
    obtain ⟨i, k, es, q1, q2, q3, _⟩ := ba a q
    have := er.ne j k ds es a h1 q2 h2 q3
    subst this
    exact hj (mem_bxs q1)
  have apart' : ∀ (j : Nat) (ds : List D) (a : Addr), j ∉ bxs vs → ρ[j]? = some (Sl.bx ds) → σ[j]? = some (some (V.ref a)) → ¬ isBx (vals.map some) ss' a := fun j ds a hj h1 h2 q => by
    rcases st.nb a q with z | z
    · exact apart j ds a hj h1 h2 z
    · obtain ⟨b, ws, y1, y2, _⟩ := er.bx j ds h1
      rw [h2] at y1; cases y1
      rw [z] at y2; cases y2
  refine ⟨⟨st.z, fun b o h1 h2 => st.fr b o h1 fun q => h2 (toB b q), fun b h1 => (st.nz b h1).imp id fun z => z.imp id (toB b), fun b h1 => ?_⟩, ⟨by rw [putSl_len]; exact er.len, er'.sub, fun j d h => ?_, fun j ds h => ?_, fun j ns h => ?_, fun j k ds es a h1 h2 h3 h4 => ?_⟩⟩
  · rcases toA b h1 with ⟨j, ds, q1, q2, q3⟩ | q
    · exact .inl ⟨j, ds, q2, q3⟩
    · exact (st.nb b q).imp (toB b) id
  · rcases inv j _ h with ⟨q1, q2⟩ | ⟨i, v, q1, q2, q3, q4⟩
    · obtain ⟨v, y1, y2⟩ := er.fr j d q2; exact ⟨v, y1, y2.mono st.z⟩
    · obtain ⟨u, y1, y2⟩ := er'.fr i d q2
      rw [q4] at y1; cases y1
      exact ⟨v, q3, y2⟩
  · rcases inv j _ h with ⟨q1, q2⟩ | ⟨i, v, q1, q2, q3, q4⟩
    · obtain ⟨a, ws, y1, y2, y3, y4⟩ := er.bx j ds q2
      have nb := apart j ds a q1 q2 y1
      refine ⟨a, ws, y1, st.fr a _ y2 nb, y3.mono st.z, ?_⟩
      cases e9 : Z' a with
      | none => rfl
      | some o =>
        rcases st.nz a (by rw [e9]; simp) with z | z | z
        · exact absurd y4 z
        · rw [y2] at z; cases z
        · exact absurd z nb
    · obtain ⟨a, ws, y1, y2, y3, y4⟩ := er'.bx i ds q2
      rw [q4] at y1; cases y1
      exact ⟨a, ws, q3, y2, y3, y4⟩
  · rcases inv j _ h with ⟨q1, q2⟩ | ⟨i, v, q1, q2, q3, q4⟩
    · obtain ⟨a, y1, y2⟩ := er.scr j ns q2; exact ⟨a, y1, sqL_mono st.z y2⟩
    · obtain ⟨a, y1, y2⟩ := er'.scr i ns q2
      rw [q4] at y1; cases y1
      exact ⟨a, q3, y2⟩
  · rcases inv j _ h1 with ⟨q1, q2⟩ | ⟨i, v, q1, q2, q3, q4⟩ <;> rcases inv k _ h2 with ⟨y1, y2⟩ | ⟨m, u, y1, y2, y3, y4⟩
    · exact er.ne j k ds es a q2 y2 h3 h4
    · rw [h4] at y3; cases y3
      exact absurd ⟨m, es, y2, y4⟩ (apart' j ds a q1 q2 h3)
    · rw [h3] at q3; cases q3
      exact absurd ⟨i, ds, q2, q4⟩ (apart' k es a y1 y2 h4)
    · rw [h3] at q3; cases q3
      rw [h4] at y3; cases y3
      have := er'.ne i m ds es a q2 y2 q4 y4
      subst this
      rw [q1] at y1
      exact Vl.bx.inj (Option.some.inj y1)
theorem call_post {F : FnV} {vals : List V} {vs : List Vl} {Q : VK} (er : ER K Z H σ ρ) (hv : VLs K σ Z vals vs) (h : Po K w Z H σ ρ (callV F vs ρ) fun r Z' H' ρ' => ∀ v, VR K H σ ρ Z' H' ρ' v r → Q v H') : spF K w.cls F vals H Q (WE w.W σ) := by
  unfold callV at h
  split at h
  · rename_i nd
    split at h
    · exact h.elim
    · rename_i ss e
      obtain ⟨ea, ba⟩ := args_er er hv nd e
      refine ⟨Z, ss, ea, ?_⟩
      cases ef : F ss with
      | stuck => rw [ef] at h; exact h.elim
      | exc x ss' =>
        rw [ef] at h
        exact fun Z' H' st er' => h Z' H' (back_er er hv nd e st er')
      | ok r ss' =>
        rw [ef] at h
        intro Z' H' st er' v hr
        have p := back_er er hv nd e st er'
        cases r with
        | bx i => exact h.elim
        | fr d => exact h Z' H' p v hr
        | ow ds =>
          obtain ⟨a, ws, rfl, h1, h2, h3, h4, h5⟩ := hr
          refine h Z' H' p _ ⟨a, ws, rfl, h1, h2, h3, fun q => ?_, ?_⟩
          · rcases p.st.nb a q with ⟨j, es, y1, y2⟩ | z
            · obtain ⟨i, fs, z1, z2⟩ := q
              -- a box of the caller's, a new list of the callee's
              by_cases hj : i ∈ bxs vs
              · obtain ⟨m, hm⟩ := bxs_mem hj
                obtain ⟨u, h3', h4'⟩ := hv.get hm
                have h4' : σ[i]? = some (some u) := h4'
                rw [z2] at h4'; cases h4'
                have hl' : ss'.length = vs.length := by rw [er'.len, ← ea.len, (argSl_look e).1]
                have hlt : m < ss'.length := by rw [hl']; exact (List.getElem?_eq_some_iff.mp hm).1
                have e1 := putSl_in nd (by rw [er.len]; exact (List.getElem?_eq_some_iff.mp z2).1) hm (List.getElem?_eq_getElem hlt)
                rw [e1] at z1
                exact h4 ⟨m, fs, by rw [← z1]; exact List.getElem?_eq_getElem hlt, by rw [List.getElem?_map, h3']; rfl⟩
              · rw [putSl_out hj] at z1
                rcases h5 with z | z
                · obtain ⟨b, xs, x1, x2, _⟩ := er.bx i fs z1
                  rw [z2] at x1; cases x1
                  rw [z] at x2; cases x2
                · obtain ⟨m, k, es', q1, q2, q3, _⟩ := ba a z
                  have := er.ne i k fs es' a z1 q2 z2 q3
                  subst this
                  exact hj (mem_bxs q1)
            · rcases h5 with z' | z'
              · -- a new one: it is in a slot of the caller's behind the call
                obtain ⟨i, fs, z1, z2⟩ := q
                by_cases hj : i ∈ bxs vs
                · obtain ⟨m, hm⟩ := bxs_mem hj
                  obtain ⟨u, h3', h4'⟩ := hv.get hm
                  have h4' : σ[i]? = some (some u) := h4'
                  rw [z2] at h4'; cases h4'
                  have hl' : ss'.length = vs.length := by rw [er'.len, ← ea.len, (argSl_look e).1]
                  have hlt : m < ss'.length := by rw [hl']; exact (List.getElem?_eq_some_iff.mp hm).1
                  have e1 := putSl_in nd (by rw [er.len]; exact (List.getElem?_eq_some_iff.mp z2).1) hm (List.getElem?_eq_getElem hlt)
                  rw [e1] at z1
                  exact h4 ⟨m, fs, by rw [← z1]; exact List.getElem?_eq_getElem hlt, by rw [List.getElem?_map, h3']; rfl⟩
                · rw [putSl_out hj] at z1
                  obtain ⟨b, xs, x1, x2, _⟩ := er.bx i fs z1
                  rw [z2] at x1; cases x1
                  rw [z] at x2; cases x2
              · obtain ⟨m, k, es', q1, q2, q3, _⟩ := ba a z'
                obtain ⟨b, xs, x1, x2, _⟩ := er.bx k es' q2
                rw [q3] at x1; cases x1
                rw [z] at x2; cases x2
          · rcases h5 with z | z
            · exact .inl z
            · obtain ⟨m, k, es', q1, q2, q3, _⟩ := ba a z
              exact .inr ⟨k, es', q2, q3⟩
  · exact h.elim
end
section
variable {X : Cx} {w : Wi} {e : Expr} {es : List Expr} {k : Nat} {f : Addr} {fd : FuncData} {ps : List Str} {x : Str} {p pos : Pos} {F : FnV} {gr : Env → Out (List Vl)}
theorem call_read {K : PySem.W.Frag} {σ : St} {H : Hp} {Q : VK} (h : tE K w (fun ρ => (gr ρ).bind fun vs ρ1 => callV F vs ρ1) σ H Q) : tA K w gr σ H fun vs H1 => spF K w.cls F vs H1 Q (WE w.W σ) := by
  obtain ⟨Z, ρ, er, h⟩ := h
  refine tA_then er h fun rs vs Z1 H1 ρ1 p1 v1 h1 => ?_
  exact call_post p1.er v1 (h1.mono fun r Z' H' ρ' _ q v hv => q v (hv.back p1))
/-- f(e, ..) -/
theorem xCall (Fk : FnOk X.prog X.w X.K X.mg X.base (L2.CX X.prog X.w) k f fd ps (spF X.K w.cls F)) (hr : Room k X.A) (hg : Gl X x) (hm : X.mg x = some (.ref f)) (hk : PySem.W.keepIn X.K (.ref f) = true) (hb : Binds X.K fd ps []) (tk : Takes X w.W)
    (hdb : (x == ("__debug__" : Str)) = false) (he : starEach (e :: es) X.env = (false, eval e X.env) :: starEach es X.env) (hpl : (backTo pos (starEach es X.env)).any (·.1) = false) (ha : PA X (e :: es) (tA X.K w gr)) :
    PE X (.Call (.Name x p) (e :: es) [] pos) (tE X.K w fun ρ => (gr ρ).bind fun vs ρ1 => callV F vs ρ1) :=
  PE.imp (pe_callS Fk hr hg hm hk hb (fun σ => passAt tk σ) ha hdb he hpl) fun σ H Q h => call_read h
/-- f() -/
theorem xCall0 (Fk : FnOk X.prog X.w X.K X.mg X.base (L2.CX X.prog X.w) k f fd ps (spF X.K w.cls F)) (hr : Room k X.A) (hg : Gl X x) (hm : X.mg x = some (.ref f)) (hk : PySem.W.keepIn X.K (.ref f) = true) (hb : Binds X.K fd ps []) (tk : Takes X w.W)
    (hdb : (x == ("__debug__" : Str)) = false) : PE X (.Call (.Name x p) [] [] pos) (tE X.K w fun ρ => (Out.ok ([] : List Vl) ρ).bind fun vs ρ1 => callV F vs ρ1) := by
  refine ⟨fun pins s σ H Q I ⟨Z, ρ, er, h⟩ => ?_⟩
  refine wpAny_Call_Name_kw (ld_glob I hg hm ?_ hdb)
  have q : spF X.K w.cls F [] H Q (WE w.W σ) := call_post (vs := []) er .nil h
  exact PySem.W.callWith_K0 I.kIn hk (run_fnS (us := []) (E := WE w.W) Fk hr hb (fun pins H s e s' I c => passAt tk σ pins H s e s' I c) I .nil q)
/-- f(a = e, ..), the names as the parameters stand -/
theorem xCallK {kws : List Keyword} (Fk : FnOk X.prog X.w X.K X.mg X.base (L2.CX X.prog X.w) k f fd ps (spF X.K w.cls F)) (hr : Room k X.A) (hg : Gl X x) (hm : X.mg x = some (.ref f)) (hk : PySem.W.keepIn X.K (.ref f) = true)
    (hb : ∀ (s : Shared) (ws : List Value), X.K.In s.heap → ws.length = ps.length → BindsTo s fd ⟨[], ps.zip ws⟩ (ps.zip ws)) (tk : Takes X w.W)
    (hall : (backToKw pos (keywordEach kws X.env)).all (·.1.isSome) = true) (hks : (backToKw pos (keywordEach kws X.env)).filterMap (·.1) = ps)
    (hdb : (x == ("__debug__" : Str)) = false) (hpl : ((backTo pos (starEach [] X.env)).any (·.1) || (backToKw pos (keywordEach kws X.env)).any (·.1.isNone)) = false) (ha : PK X kws (tA X.K w gr)) :
    PE X (.Call (.Name x p) [] kws pos) (tE X.K w fun ρ => (gr ρ).bind fun vs ρ1 => callV F vs ρ1) := by
  refine ⟨fun pins s σ H Q I h => ?_⟩
  refine wpAny_Call_Name_kw (ld_glob I hg hm ?_ hdb)
  refine PySem.W.callWith_KW0 (h₀ := X.base) I.ok.mod.kin hk hall (thn (ha.run pos pins s σ H _ I (call_read h)) fun us s1 ⟨vs, H1, I1, r, q⟩ => ⟨I1.kIn, ?_⟩) hpl
  rw [hks]
  have hl : us.length = ps.length := by rw [← r.length]; exact Fk.len _ _ _ _ q
  refine wpAny_call (codeAny_mono (Fk.run X.A X.stack s1 H1 ⟨[], ps.zip us⟩ us vs Q (WE w.W σ) hr I1.env0 (hb s1 us I1.kIn hl) r q) fun r s' hq => ?_)
  cases r with
  | error e => exact passAt tk σ pins H1 s1 e s' I1 hq
  | ok fl =>
    cases fl with
    | ret u => exact I1.after hq
    | next => exact False.elim hq
    | brk => exact False.elim hq
    | cont => exact False.elim hq
end
end Wk
end T_WkP
section T_WkQ
set_option maxHeartbeats 4000000
namespace Wk
open PySem PySem.Spec PyProof.Rows L2 RZ
/-! ### a chain of comparisons -/
section
variable {X : Cx} {w : Wi} {a b c e : Expr} {ga gb gc : Env → Out Vl} {pos : Pos}
def chV (o1 o2 : Co) (ga gb gc : Env → Out Vl) (ρ : Env) : Out Vl := (ga ρ).bind fun v ρ1 => (gb ρ1).bind fun u ρ2 => (two (cmpV o1) v u ρ2).bind fun k ρ3 => match k with
    | .fr (.bool true) => (gc ρ3).bind fun z ρ4 => two (cmpV o2) u z ρ4
    | .fr (.bool false) => .ok (.fr (.bool false)) ρ3
    | _ => .stuck
theorem two_then {α : Type} {f : PyData → PyData → Option Vl} {K : PySem.W.Frag} {Z H : Hp} {σ : St} {ρ : Env} {v u : Vl} {g : Vl → Env → Out α} {R : α → Hp → Hp → Env → Prop} (h : Po K w Z H σ ρ ((two f v u ρ).bind g) R) :
    ∃ x y r, v.lay.data ρ = some x ∧ u.lay.data ρ = some y ∧ f x y = some r ∧ Po K w Z H σ ρ (g r ρ) R := by
  unfold two at h
  split at h
  · rename_i x y e1 e2
    cases e : f x y with
    | none => rw [e] at h; exact h.elim
    | some r => rw [e] at h; exact ⟨x, y, r, e1, e2, e, h⟩
  · exact h.elim
theorem chain_core {o1 o2 : Co} {K : PySem.W.Frag} {Z H : Hp} {σ : St} {ρ : Env} {Q : VK} {R : Vl → Hp → Hp → Env → Prop} (er : ER K Z H σ ρ) (h : Po K w Z H σ ρ (chV o1 o2 ga gb gc ρ) R)
    (k : ∀ (b : Bool) Z1 H1 ρ1, Pst K Z H σ ρ Z1 H1 ρ1 → R (.fr (.bool b)) Z1 H1 ρ1 → Q (.bl b) H1) : tChain (rC K o1) (rC K o2) (tE K w ga) (tE K w gb) (tE K w gc) σ H Q := by
  refine tE_then er h fun r v Z1 H1 ρ1 p1 v1 h1 => ?_
  refine tE_then p1.er h1 fun r2 v2 Z2 H2 ρ2 p2 v2' h2 => ?_
  obtain ⟨x, y, res, e1, e2, e3, h3⟩ := two_then h2
  obtain ⟨b, e4, rfl⟩ := Option.map_eq_some_iff.mp e3
  have sx := p2.er.sh (v1.mono p2.st.z) e1
  have sy := p2.er.sh v2' e2
  have p12 := p1.trans p2
  refine ⟨Z2, x, y, b, p2.er.sub, sx, sy, e4, b, rfl, ?_⟩
  cases b with
  | false => exact iteF (k false Z2 H2 ρ2 p12 (h3.ok_now p2.er))
  | true =>
    refine iteT (tE_then p2.er h3 fun r4 v4 Z4 H4 ρ4 p4 v4' h4 => ?_)
    obtain ⟨x', y', res', f1, f2, f3, h5⟩ := two_post h4
    obtain ⟨b', f4, rfl⟩ := Option.map_eq_some_iff.mp f3
    exact ⟨Z4, x', y', b', p4.er.sub, p4.er.sh (v2'.mono p4.st.z) f1, p4.er.sh v4' f2, f4, k b' Z4 H4 ρ4 (p12.trans p4) (h5.ok_now p4.er)⟩
theorem xChain {o1 o2 : Co} (hu : X.A.units + 65 < cLine) (hm : lastMarks [pyC o1, pyC o2] [b, c] = false) (ha : PE X a (tE X.K w ga)) (hb : PE X b (tE X.K w gb)) (hc : PE X c (tE X.K w gc)) : PE X (.Compare a [pyC o1, pyC o2] [b, c] pos) (tE X.K w (chV o1 o2 ga gb gc)) := by
  refine PE.imp (pe_chain (opC o1 hu) (opC o2 hu) ha hb hc hm) fun σ H Q ⟨Z, ρ, er, h⟩ => ?_
  exact chain_core er h fun b Z1 H1 ρ1 p q => q _ (.bl b)
theorem xChainT {o1 o2 : Co} (hu : X.A.units + 65 < cLine) (hm : lastMarks [pyC o1, pyC o2] [b, c] = false) (ha : PE X a (tE X.K w ga)) (hb : PE X b (tE X.K w gb)) (hc : PE X c (tE X.K w gc)) : PT X (.Compare a [pyC o1, pyC o2] [b, c] pos) (tT X.K w fun ρ => (chV o1 o2 ga gb gc ρ).bind tru) := by
  refine PT.imp (pt_chain (opC o1 hu) (opC o2 hu) ha hb hc hm) fun σ H Q ⟨Z, ρ, er, h⟩ => ?_
  have h2 := h.bind (R' := fun v Z' H' ρ' => Pst X.K Z H σ ρ Z' H' ρ' ∧ ∀ Z2 H2, Pst X.K Z H σ ρ Z2 H2 ρ' → Po X.K w Z2 H2 σ ρ' (tru v ρ') fun b _ H' _ => Q b H') fun v Z1 H1 ρ1 p k => ⟨p, k⟩
  refine chain_core (Q := fun x H' => ∃ k, x = .bl k ∧ Q k H') er h2 fun b Z1 H1 ρ1 p q => ?_
  have q2 := q.2 Z1 H1 p
  rw [tru_ok (x := .bool b) (b := b) rfl rfl] at q2
  exact ⟨b, rfl, q2.ok_now p.er⟩
end
/-! ### raise X() -/
/-- what an own exception class must have -/
structure OwnX (K : PySem.W.Frag) (C : Addr) : Prop where
  ex : ∃ bmB B newId initId, ExcBaseFacts B newId initId bmB ∧ PySem.W.excIn K C bmB newId = true
  keep : PySem.W.keepIn K (.ref C) = true
  sub : PySem.W.subIn K (.ref C) (.type "BaseException") = some true
  ty : PySem.W.typeIn K (.ref C) = some (.type "type")
section
variable {X : Cx} {w : Wi}
theorem pmk_own0 {C : Addr} {bmB : List Value} {B newId initId : String} {x : Str} {p pos : Pos} (F : ExcBaseFacts B newId initId bmB) (q : PySem.W.excIn X.K C bmB newId = true) (gC : X.mg x = some (.ref C)) (kC : PySem.W.keepIn X.K (.ref C) = true) (r : Raises X (.ref C)) (hg : Gl X x)
    (hdb : (x == ("__debug__" : Str)) = false) : PMk X (.Call (.Name x p) [] [] pos) (fun _ H Q => Q (.ref C) none H) := by
  intro pins s σ H Q I h
  refine wpAny_Call_Name_kw (ld_glob I hg gC ?_ hdb)
  refine PySem.W.callWith_K0 I.kIn kC ?_
  show wpAny _ _ (call (.ref C) []) _ _ _
  obtain ⟨bm, N, nm, qn, bs, hdct, sn, sub, ab, col, dd, k0, k1, k2, k3, k5, mN, hC, hN, hni, T⟩ := exc_obj I.kIn q
  refine wpAny_call_exc_subT F T hC hN hni (fun h' e hm => ?_) (by show 0 ≤ sizeLine; exact Nat.zero_le _)
  exact mk_of I hm r h (I.hok.gone hm.new)
theorem sRaise {C : Addr} {x : Str} {nm : Exn} {p pos pos' : Pos} (hc : X.calm = true) (tk : Takes X w.W) (O : OwnX X.K C) (gC : X.mg x = some (.ref C)) (hcl : w.cls nm = some (.ref C)) (hg : Gl X x) (hdb : (x == ("__debug__" : Str)) = false) :
    PS X (.Raise (some (.Call (.Name x p) [] [] pos)) none pos') (tS X.K w fun ρ => .exc nm ρ) := by
  obtain ⟨bmB, B, newId, initId, F, q⟩ := O.ex
  refine PS.imp (ps_raise hc tk (pmk_own0 F q gC O.keep (raises_own O.sub O.ty) hg hdb)) fun D σ H ⟨Z, ρ, er, h⟩ => ?_
  obtain ⟨c, e1, e2⟩ := h Z H σ .refl er
  rw [hcl] at e1; cases e1
  exact e2
end
/-! ### a def -/
section
variable {K : PySem.W.Frag} {w : Wi} {Z H Z1 H1 : Hp} {σ : St} {ρ ρ1 : Env}
theorem endSl_look {kp : List Nat} : ∀ {as : List Sl} {k i : Nat} {ρ : Env} {s : Sl}, (endSl kp k as ρ)[i]? = some s → ∃ t, as[i]? = some t ∧ s = if kp.contains (k + i) then ρ.getD (k + i) .no else t
  | [], _, _, _, _, h => by simp [endSl] at h
  | t :: as, k, 0, ρ, s, h => by
    simp only [endSl, List.getElem?_cons_zero, Option.some.injEq] at h
    exact ⟨t, rfl, by rw [Nat.add_zero]; exact h.symm⟩
  | t :: as, k, i + 1, ρ, s, h => by
    simp only [endSl, List.getElem?_cons_succ] at h
    obtain ⟨t', h1, h2⟩ := endSl_look h
    exact ⟨t', by simpa using h1, by rw [show k + (i + 1) = k + 1 + i by omega]; exact h2⟩
theorem endSl_len {kp : List Nat} : ∀ {as : List Sl} {k : Nat} {ρ : Env}, (endSl kp k as ρ).length = as.length
  | [], _, _ => rfl
  | t :: as, k, ρ => by simp [endSl, endSl_len]
theorem heldOk_at {kp : List Nat} : ∀ {as : List Sl} {k i : Nat} {ds : List PyData}, heldOk kp k as = true → as[i]? = some (Sl.bx ds) → kp.contains (k + i) = true
  | [], _, _, _, _, h => by simp at h
  | t :: as, k, 0, ds, h, h2 => by
    simp at h2
    subst h2
    simp only [heldOk, noBx, Bool.or_false, Bool.and_eq_true] at h
    exact h.1
  | t :: as, k, i + 1, ds, h, h2 => by
    simp only [heldOk, Bool.and_eq_true] at h
    rw [show k + (i + 1) = k + 1 + i by omega]
    exact heldOk_at h.2 (by simpa using h2)
theorem getD_some {ρ : Env} {i : Nat} {s : Sl} (h : ρ.getD i .no = s) (hs : s ≠ .no) : ρ[i]? = some s := by
  rw [List.getD_eq_getElem?_getD] at h
  cases q : ρ[i]? with
  | none => rw [q] at h; exact absurd h.symm hs
  | some t => rw [q] at h; rw [← h]; rfl
theorem app_look {as : List Sl} {n i : Nat} {s : Sl} (h : (as ++ List.replicate n Sl.no)[i]? = some s) (hs : s ≠ .no) : as[i]? = some s := by
  rw [List.getElem?_append] at h
  split at h
  · exact h
  · rw [List.getElem?_replicate] at h
    split at h
    · cases h; exact absurd rfl hs
    · cases h
/-- at a def's entry -/
theorem start_er {vs : List V} {as : List Sl} {n : Nat} (er : ER K Z H (vs.map some) as) : ER K Z H (vs.map some ++ List.replicate n none) (as ++ List.replicate n .no) ∧ (∀ a, isBx (vs.map some ++ List.replicate n none) (as ++ List.replicate n .no) a ↔ isBx (vs.map some) as a) := by
  have hl := er.len
  have up : ∀ (i : Nat) (s : Sl), as[i]? = some s → (vs.map some ++ List.replicate n none)[i]? = (vs.map some)[i]? := fun i s h => List.getElem?_append_left (by rw [← hl]; exact (List.getElem?_eq_some_iff.mp h).1)
  have upA : ∀ (i : Nat) (s : Sl), as[i]? = some s → (as ++ List.replicate n Sl.no)[i]? = some s := fun i s h => by rw [List.getElem?_append_left (List.getElem?_eq_some_iff.mp h).1]; exact h
  refine ⟨⟨by simp [hl], er.sub, fun i d h => ?_, fun i ds h => ?_, fun i ns h => ?_, fun i j ds es a h1 h2 h3 h4 => ?_⟩, fun a => ⟨fun ⟨i, ds, h1, h2⟩ => ?_, fun ⟨i, ds, h1, h2⟩ => ?_⟩⟩
  · have q := app_look h (by simp); rw [up i _ q]; exact er.fr i d q
  · have q := app_look h (by simp); rw [up i _ q]; exact er.bx i ds q
  · have q := app_look h (by simp); rw [up i _ q]; exact er.scr i ns q
  · have q1 := app_look h1 (by simp)
    have q2 := app_look h2 (by simp)
    rw [up _ _ q1] at h3
    rw [up _ _ q2] at h4
    exact er.ne i j ds es a q1 q2 h3 h4
  · have q := app_look h1 (by simp)
    rw [up _ _ q] at h2
    exact ⟨i, ds, q, h2⟩
  · exact ⟨i, ds, upA i _ h1, by rw [up i _ h1]; exact h2⟩
/-- at its end -/
theorem end_er {kp : List Nat} {vs : List V} {as : List Sl} {n : Nat} {Z' H' : Hp} {σ' : St} {ρ' : Env} (er : ER K Z H (vs.map some) as) (hk : heldOk kp 0 as = true)
    (st : Step Z H (vs.map some ++ List.replicate n none) (as ++ List.replicate n .no) Z' H' σ' ρ') (hp : ∀ i ∈ kp, σ'[i]? = (vs.map some ++ List.replicate n none)[i]?) (er' : ER K Z' H' σ' ρ') :
    Step Z H (vs.map some) as Z' H' (vs.map some) (endSl kp 0 as ρ') ∧ ER K Z' H' (vs.map some) (endSl kp 0 as ρ') ∧ ∀ a, isBx (vs.map some) (endSl kp 0 as ρ') a → isBx σ' ρ' a := by
  obtain ⟨e0, b0⟩ := start_er (n := n) er
  have look : ∀ (i : Nat) (s : Sl), (endSl kp 0 as ρ')[i]? = some s → s ≠ .no → (ρ'[i]? = some s ∧ σ'[i]? = (vs.map some)[i]?) ∨ (as[i]? = some s ∧ ∀ ds, s ≠ Sl.bx ds) := fun i s h hs => by
    obtain ⟨t, h1, h2⟩ := endSl_look h
    rw [Nat.zero_add] at h2
    by_cases c : kp.contains i = true
    · rw [if_pos c] at h2
      refine .inl ⟨getD_some h2.symm hs, ?_⟩
      rw [hp i (by simpa using c)]
      exact List.getElem?_append_left (by rw [← er.len]; exact (List.getElem?_eq_some_iff.mp h1).1)
    · rw [if_neg c] at h2
      subst h2
      refine .inr ⟨h1, fun ds e => ?_⟩
      subst e
      have := heldOk_at hk h1
      rw [Nat.zero_add] at this
      exact c this
  have toB : ∀ a, isBx (vs.map some) (endSl kp 0 as ρ') a → isBx σ' ρ' a := fun a ⟨i, ds, h1, h2⟩ => by
    rcases look i _ h1 (by simp) with ⟨q1, q2⟩ | ⟨q1, q2⟩
    · exact ⟨i, ds, q1, by rw [q2]; exact h2⟩
    · exact absurd rfl (q2 ds)
  refine ⟨⟨st.z, fun b o h1 h2 => st.fr b o h1 fun q => h2 ((b0 b).mp q), fun b h => (st.nz b h).imp id fun z => z.imp id (b0 b).mp, fun b h => (st.nb b (toB b h)).imp (b0 b).mp id⟩, ⟨by rw [endSl_len]; exact er.len, er'.sub, fun i d h => ?_, fun i ds h => ?_, fun i ns h => ?_, fun i j ds es a h1 h2 h3 h4 => ?_⟩, toB⟩
  · rcases look i _ h (by simp) with ⟨q1, q2⟩ | ⟨q1, q2⟩
    · obtain ⟨v, y1, y2⟩ := er'.fr i d q1; exact ⟨v, by rw [← q2]; exact y1, y2⟩
    · obtain ⟨v, y1, y2⟩ := er.fr i d q1; exact ⟨v, y1, y2.mono st.z⟩
  · rcases look i _ h (by simp) with ⟨q1, q2⟩ | ⟨q1, q2⟩
    · obtain ⟨a, ws, y1, y2⟩ := er'.bx i ds q1; exact ⟨a, ws, by rw [← q2]; exact y1, y2⟩
    · exact absurd rfl (q2 ds)
  · rcases look i _ h (by simp) with ⟨q1, q2⟩ | ⟨q1, q2⟩
    · obtain ⟨a, y1, y2⟩ := er'.scr i ns q1; exact ⟨a, by rw [← q2]; exact y1, y2⟩
    · obtain ⟨a, y1, y2⟩ := er.scr i ns q1; exact ⟨a, y1, sqL_mono st.z y2⟩
  · rcases look i _ h1 (by simp) with ⟨q1, q2⟩ | ⟨q1, q2⟩
    · rcases look j _ h2 (by simp) with ⟨y1, y2⟩ | ⟨y1, y2⟩
      · exact er'.ne i j ds es a q1 y1 (by rw [q2]; exact h3) (by rw [y2]; exact h4)
      · exact absurd rfl (y2 es)
    · exact absurd rfl (q2 ds)
/-- a def's body read -/
theorem fn_read {Φ : Fns} {np n : Nat} {kp : List Nat} {b : T} {cls : Exn → Option Value} {vs : List V} {Q : VK} {E : XK} (h : spF K cls (fnV Φ np n kp b) vs H Q E) :
    tS K ⟨fun c d _ H' => E c d H', cls, kp⟩ (ex Φ b) { nx := fun _ H' => Q .non H', rt := Q } (vs.map some ++ List.replicate n none) H := by
  obtain ⟨Z, as, er, h⟩ := h
  by_cases c : as.length = np ∧ heldOk kp 0 as = true
  · have ef : fnV Φ np n kp b as = (match ex Φ b (as ++ List.replicate n .no) with
      | .stuck => .stuck
      | .exc x ρ => .exc x (endSl kp 0 as ρ)
      | .ok .nx ρ => .ok (.fr .none) (endSl kp 0 as ρ)
      | .ok (.rt v) ρ => .ok v (endSl kp 0 as ρ)
      | .ok _ _ => .stuck) := if_pos c
    rw [ef] at h
    obtain ⟨e0, b0⟩ := start_er (n := n) er
    refine ⟨Z, _, e0, ?_⟩
    cases e : ex Φ b (as ++ List.replicate n .no) with
    | stuck => rw [e] at h; exact h.elim
    | exc x ρ =>
      rw [e] at h
      intro Z' H' σ' s er'
      obtain ⟨q1, q2, q3⟩ := end_er er c.2 s.st s.kp er'
      exact h Z' H' q1 q2
    | ok f ρ =>
      rw [e] at h
      intro Z' H' σ' s er'
      obtain ⟨q1, q2, q3⟩ := end_er er c.2 s.st s.kp er'
      cases f with
      | nx => exact h Z' H' q1 q2 .non .non
      | bk => exact h.elim
      | ct => exact h.elim
      | rt r =>
        intro v hv
        refine h Z' H' q1 q2 v ?_
        cases r with
        | fr d => exact hv
        | bx i => exact hv
        | ow ds =>
          obtain ⟨a, ws, rfl, y1, y2, y3, y4, y5⟩ := hv
          exact ⟨a, ws, rfl, y1, y2, y3, fun q => y4 (q3 a q), y5.imp id (b0 a).mp⟩
  · have ef : fnV Φ np n kp b as = .stuck := if_neg c
    rw [ef] at h
    exact h.elim
theorem sp_len {Φ : Fns} {np n : Nat} {kp : List Nat} {b : T} {cls : Exn → Option Value} {vs : List V} {Q : VK} {E : XK} (h : spF K cls (fnV Φ np n kp b) vs H Q E) : vs.length = np := by
  obtain ⟨Z, as, er, h⟩ := h
  by_cases c : as.length = np ∧ heldOk kp 0 as = true
  · rw [← c.1, er.len, List.length_map]
  · have ef : fnV Φ np n kp b as = .stuck := if_neg c
    rw [ef] at h
    exact h.elim
end
/-- a def of the text -/
theorem okFn {P : Program} {wd : World} {K : PySem.W.Frag} {mg : Str → Option Value} {base : Heap} {x qual : Str} {st : Stmt} {f : Addr} {fd : FuncData} {N ps : List Str} {k : Nat} {Φ : Fns} {kp : List Nat} {b : T} {cls : Exn → Option Value} (F : L2.Fun K x qual st f fd) (S : FnScope N ps (defScope st))
    (hbody : ∀ (cdv : Value) (A : Around) (outer : List PySem.Env) (s : Shared) (H : Hp) (E : XK), Room k (A.deeper (envOfC qual (defScope st) s.heap.objs.size f cdv)) →
      PSs (cxOf (L2.CX P wd) P wd K mg base N qual (defScope st) f cdv A outer s H E) (defBody st) (tS K ⟨fun c d _ H' => E c d H', cls, kp⟩ (ex Φ b))) :
    FnOk P wd K mg base (L2.CX P wd) (k + 1) f fd ps (spF K cls (fnV Φ ps.length (N.length - ps.length) kp b)) := by
  refine F.okX S (fun vs H Q E h => sp_len h) fun cdv A outer s H vs Q E hr hsp => ⟨_, hbody cdv A outer s H E hr, ?_⟩
  have hl := sp_len hsp
  unfold L2.start
  rw [hl]
  exact fn_read hsp
end Wk
end T_WkQ
section T_WkR
set_option maxHeartbeats 4000000
namespace Wk
open PySem PySem.Spec PyProof.Rows L2 RZ
/-! ### from the text to terms -/
/-- what is known of the text's names -/
structure Gx where
  blt : List Str
  fns : List (Str × String × List Str)
  con : List (Str × PyData)
  exs : List (Str × Exn)
  st : String → Stmt
/-- .. of a block's -/
structure Sx where
  N : List Str
  sc : Scope
  fn : Str → Bool
  U : List Nat
def Sx.kind (S : Sx) (x : Str) : Option NameKind := S.sc.names.lookup x
def Sx.vis (S : Sx) (x : Str) : Bool := match S.kind x with
  | some .local => true
  | some .cell => true
  | some .free => true
  | _ => false
def Sx.loc (S : Sx) (x : Str) : Bool := match S.kind x with
  | some .local => true
  | some .cell => true
  | _ => false
def Sx.gl (S : Sx) (x : Str) : Bool := decide (S.kind x = some .globalImplicit) && !(x == ("__debug__" : Str)) && decide (x ≠ "__name__")
/-- the slot of a name -/
def slotOf (x : Str) : List Str → Nat → Option Nat
  | [], _ => none
  | y :: ys, i => if y = x then some i else slotOf x ys (i + 1)
def Sx.ix (S : Sx) (x : Str) : Option Nat := if S.vis x && !(x == ("__debug__" : Str)) && !(x == ("__classdict__" : Str)) then slotOf x S.N 0 else none
/-- a name that may be stored to -/
def Sx.st (S : Sx) (x : Str) : Option Nat := if S.loc x && (S.fn x || decide (S.kind x = some .local)) then slotOf x S.N 0 else none
def findS {α : Type} (x : Str) : List (Str × α) → Option α
  | [] => none
  | (y, a) :: r => if y = x then some a else findS x r
def memS (x : Str) : List Str → Bool
  | [] => false
  | y :: r => if y = x then true else memS x r
def boOf : Operator → Option Bo
  | .Add => some .add | .Sub => some .sub | .Mult => some .mul | .Mod => some .mod | .FloorDiv => some .fdiv | .Pow => some .pow | .LShift => some .shl
  | _ => none
def coOf : CmpOp → Option Co
  | .Eq => some .eq | .NotEq => some .ne | .Lt => some .lt | .LtE => some .le | .Gt => some .gt | .GtE => some .ge | .In => some .isin | .NotIn => some .notin | .Is => some .isN | .IsNot => some .notN
def litOf : Const → Option PyData
  | .none => some .none
  | .bool b => some (.bool b)
  | .int i => some (.int i)
  | .str s => some (.str s)
  | _ => none
def noStar : Expr → Bool
  | .Starred _ _ => false
  | _ => true
def noStars : List Expr → Bool
  | [] => true
  | e :: es => noStar e && noStars es
/-- the built-in of that name with so many arguments -/
def bfOf (x : Str) (n : Nat) : Option Bf :=
  if n = 1 then
    (if x = "len" then some .len else if x = "abs" then some .abs else if x = "sum" then some .sum else if x = "all" then some .all else if x = "any" then some .any else if x = "tuple" then some .tuple
     else if x = "list" then some .list else if x = "int" then some .int else if x = "str" then some .str else if x = "sorted" then some .sorted else none)
  else if n = 2 then (if x = "min" then some .min2 else if x = "max" then some .max2 else none)
  else none
def tyOf (x : Str) : Option Ty := if x = "int" then some .tint else if x = "bool" then some .tbool else if x = "str" then some .tstr else if x = "list" then some .tlist else if x = "tuple" then some .ttuple else none
def meOf (x : Str) (n : Nat) : Option Me :=
  if n = 1 then (if x = "append" then some .append else if x = "extend" then some .extend else if x = "pop" then some .popAt else none)
  else if n = 0 then (if x = "pop" then some .pop else none) else none
section
variable (G : Gx)
abbrev Tr := Sx → Expr → Option T
section
variable (rec : Tr) (S : Sx)
def trA : List Expr → Option T
  | [] => some .nil
  | e :: es => if noStar e then (rec S e).bind fun t => (trA es).map fun r => .cons t r else none
def trB (op : BoolOp) : List Expr → Option T
  | [] => none
  | e :: es => match es with
    | [] => rec S e
    | _ :: _ => (rec S e).bind fun t => (trB op es).map fun r => match op with
      | .And => .and t r
      | .Or => .or t r
def trP : Option Expr → Option T
  | none => some .nil
  | some e => (rec S e).map fun t => .cons t .nil
/-- a built-in's name -/
def bltOk (x : Str) : Bool := S.gl x && memS x G.blt
def trName (x : Str) : Option T := match S.ix x with
  | some i => some (.var i)
  | none => if S.gl x then (findS x G.con).map .lit else none
def trIsi (a ty : Expr) : Option T := match ty with
  | .Name t _ => if bltOk G S "isinstance" && bltOk G S t && noStar a then (tyOf t).bind fun k => (rec S a).map (.isi [k]) else none
  | .Tuple es _ _ => match es with
    | [.Name t _, .Name u _] => if bltOk G S "isinstance" && bltOk G S t && bltOk G S u && noStar a then (tyOf t).bind fun k => (tyOf u).bind fun l => (rec S a).map (.isi [k, l]) else none
    | _ => none
  | _ => none
/-- range(..) within list(..), tuple(..) -/
def trRg (e : Expr) : Option T := match e with
  | .Call (.Name r _) args [] _ => if r = "range" && bltOk G S "range" then
      match args with
      | [a] => if noStar a then (rec S a).map .rng1 else none
      | [a, b] => if noStar a && noStar b then (rec S a).bind fun ta => (rec S b).map fun tb => .rng2 ta tb else none
      | _ => none
    else none
  | _ => none
def trPlain (x : Str) (args : List Expr) : Option T := match args with
  | [] => if S.gl x then (findS x G.fns).bind fun q => if q.2.length = 0 then some (.call q.1 .nil) else none else none
  | e :: es => if noStars (e :: es) then
      match bfOf x (es.length + 1) with
      | some f => if bltOk G S x then (trA rec S (e :: es)).map (.bi f) else none
      | none => if S.gl x then (findS x G.fns).bind fun q => if q.2.length = es.length + 1 then (trA rec S (e :: es)).map (.call q.1) else none else none
    else none
def trSeq (x : Str) (args : List Expr) : Option T := match args with
  | [e] => (trRg G rec S e).bind fun r => match r with
    | .rng1 a => if x = "list" && bltOk G S "list" then some (.listIt (.rng1 a)) else if x = "tuple" && bltOk G S "tuple" then some (.tupIt (.rng1 a)) else none
    | .rng2 a b => if x = "list" && bltOk G S "list" then some (.listIt (.rng2 a b)) else none
    | _ => none
  | _ => none
def kwNames : List Keyword → List (Option Str)
  | [] => []
  | k :: ks => k.arg :: kwNames ks
def kwVals : List Keyword → List Expr
  | [] => []
  | k :: ks => k.value :: kwVals ks
def trV : List Expr → Option T
  | [] => some .nil
  | e :: es => (rec S e).bind fun t => (trV es).map fun r => .cons t r
def noCall : Expr → Bool
  | .Call _ _ _ _ => false
  | _ => true
def trCall (f : Expr) (args : List Expr) (kws : List Keyword) (pos : Pos) : Option T := match f with
  | .Name x _ => match kws with
    | [] => if x = "isinstance" then (match args with
        | [a, ty] => trIsi G rec S a ty
        | _ => none)
      else match trSeq G rec S x args with
        | some t => some t
        | none => trPlain G rec S x args
    | _ :: _ => match args with
      | [] => if S.gl x then (findS x G.fns).bind fun q => if kwNames kws = q.2.map some then (trV rec S (kwVals kws)).map (.call q.1) else none else none
      | _ :: _ => none
  | .Attribute o m apos => if m = "index" then (match kws, args with
      | [], [b] => if apos.endLine == pos.line && (noStar b && noCall o) then (rec S o).bind fun to => (rec S b).map fun tb => .idx to tb else none
      | _, _ => none)
    else match o with
    | .Name x _ => match kws with
      | [] => if apos.endLine == pos.line then (S.ix x).bind fun i => (meOf m args.length).bind fun me => if noStars args && decide (args.length < 20) then (trA rec S args).map (.meth me i) else none else none
      | _ :: _ => none
    | _ => none
  | _ => none
/-! comprehensions -/
def ownOf (N : List Str) : List (Str × NameKind) → List (Str × Nat)
  | [] => []
  | (y, k) :: r => match k, slotOf y N 0 with
    | .local, some i => (y, i) :: ownOf N r
    | .cell, some i => (y, i) :: ownOf N r
    | _, _ => ownOf N r
def blkOk (N : List Str) (sc scope : Scope) (own : List (Str × Nat)) : Bool :=
  decide (scope.kind = .function) && scope.names.all (fun y => decide (scope.names.lookup y.1 = some y.2)) && own.all (fun p => decide (N[p.2]? = some p.1))
    && scope.names.all (fun y => !decide (y.2 = .free) || decide (sc.names.lookup y.1 = some .cell) || decide (sc.names.lookup y.1 = some .free))
    && scope.names.all (fun y => !(decide (y.2 = .local) || decide (y.2 = .cell)) || memS y.1 (own.map (·.1)) || !memS y.1 N)
/-- a block's own scope within sc -/
def relS (scope sc : Scope) : Scope := { scope with names := scope.names.map fun (n, k) => if (k == .free && sc.kind == .function && sc.names.lookup n == some .cell) then (n, .cell) else (n, k) }
def Sx.blk (S : Sx) (scope : Scope) : Sx := ⟨S.N, relS scope S.sc, fun x => scope.names.lookup x == some .cell, []⟩
def trG (S : Sx) : Nat → Expr → Option Tg
  | 0, _ => none
  | n + 1, e => match e with
    | .Name x _ => (S.st x).map .nm
    | .Tuple es _ _ => if noStars es then (go (trG S n) es).map .tp else none
    | _ => none
where go (f : Expr → Option Tg) : List Expr → Option Tg
  | [] => some .nil
  | e :: es => (f e).bind fun h => (go f es).map fun t => .cons h t
def isTup : Expr → Bool
  | .Tuple _ _ _ => true
  | _ => false
def notSet : Expr → Bool
  | .Set _ _ _ => false
  | _ => true
def trI (tg iter : Expr) : Option T := match iter with
  | .Call (.Name f _) args [] _ =>
    if f = "range" then trRg G rec S iter
    else if f = "enumerate" then (if bltOk G S "enumerate" && isTup tg then (match args with
      | [a] => if noStar a then (rec S a).map .enum else none
      | _ => none) else none)
    else if f = "zip" then (if bltOk G S "zip" && isTup tg then (match args with
      | [a, b] => if noStar a && noStar b then (rec S a).bind fun ta => (rec S b).map fun tb => .zip ta tb else none
      | _ => none) else none)
    else (rec S iter).map .dat
  | .Set _ _ _ => none
  | _ => (rec S iter).map .dat
def trIf : List Expr → Option T
  | [] => some .nil
  | [c] => (rec S c).map fun t => .cons t .nil
  | _ => none
def trComp (elt : Expr) (gens : List Comprehension) (scope : Scope) : Option T := match gens with
  | [g] => if g.is_async = 0 then
      (trI G rec S g.target g.iter).bind fun ti => (trG (S.blk scope) 5 g.target).bind fun tg => (trIf rec (S.blk scope) g.ifs).bind fun tc => (rec (S.blk scope) elt).bind fun te =>
        if blkOk S.N S.sc scope (ownOf S.N scope.names) && tg.slots.all (fun j => ((ownOf S.N scope.names).map (·.2)).contains j) then some (.comp tg ((ownOf S.N scope.names).map (·.2)) ti tc te) else none
    else none
  | _ => none
def trE1 (e : Expr) : Option T := match e with
  | .Constant c _ _ => (litOf c).map .lit
  | .Name x _ => trName G S x
  | .UnaryOp op a _ => match op with
    | .Not => (rec S a).map .not
    | .USub => (rec S a).map .neg
    | _ => none
  | .BinOp a op b _ => (boOf op).bind fun o => (rec S a).bind fun ta => (rec S b).map fun tb => .bin o ta tb
  | .Compare a ops bs _ => match ops, bs with
    | [op], [b] => if behindInMarks op b then none else (coOf op).bind fun o => (rec S a).bind fun ta => (rec S b).map fun tb => .cmp o ta tb
    | [op, op2], [b, c] => if lastMarks [op, op2] [b, c] then none else (coOf op).bind fun o => (coOf op2).bind fun o2 => (rec S a).bind fun ta => (rec S b).bind fun tb => (rec S c).map fun tc => .chain o o2 ta tb tc
    | _, _ => none
  | .BoolOp op es _ => trB rec S op es
  | .IfExp c a b _ => (rec S c).bind fun tc => (rec S a).bind fun ta => (rec S b).map fun tb => .ite tc ta tb
  | .Tuple es _ _ => if noStars es then (trA rec S es).map .tup else none
  | .List es _ => if noStars es then (trA rec S es).map .lst else none
  | .Subscript a b _ => match b with
    | .Slice lo hi st _ => match st with
      | none => (rec S a).bind fun ta => (trP rec S lo).bind fun tl => (trP rec S hi).map fun th => .sl ta tl th
      | some st => match lo, hi, st with
        | none, none, .UnaryOp .USub (.Constant (.int 1) _ _) _ => (rec S a).map .rev
        | _, _, _ => none
    | b => (rec S a).bind fun ta => (rec S b).map fun tb => .ix ta tb
  | .Call f args kws pos => trCall G rec S f args kws pos
  | .ListComp elt gens scope _ => trComp G rec S elt gens scope
  | _ => none
end
def trE : Nat → Tr
  | 0 => fun _ _ => none
  | n + 1 => fun S e => trE1 G (trE n) S e
/-! statements -/
/-- the names of a, b = x, y that are stored one by one -/
def nmsOf (S : Sx) (line : Nat) : List Expr → List Str
  | [] => []
  | e :: es => match e with
    | .Name id pos => if decide (S.kind id = some .local) && pos.line == line then id :: nmsOf S line es else nmsOf S line es
    | _ => nmsOf S line es
def lineOf : List Expr → Nat
  | [] => 0
  | e :: _ => e.pos.line
/-- swappedStores, of the scope alone -/
def swP (S : Sx) (ts vs : List Expr) : Option (Option (List Str)) :=
  if decide (S.sc.kind ≠ .function) then none
  else if !(ts.length == 2 || ts.length == 3) || vs.length != ts.length then some none
  else if !noStars vs then none
  else if (nmsOf S (lineOf ts) ts).length != ts.length || (nmsOf S (lineOf ts) ts).eraseDups.length != (nmsOf S (lineOf ts) ts).length then some none
  else if vs.all (foldedForSure 8) then some none
  else if vs.all (constantsAlone 8) then none
  else some (some (nmsOf S (lineOf ts) ts))
def isComp : Expr → Bool
  | .ListComp _ _ _ _ => true
  | .SetComp _ _ _ _ => true
  | .DictComp _ _ _ _ _ => true
  | _ => false
/-- name = [..] on one line -/
def swC (S : Sx) (y : Str) (py : Pos) (scope : Scope) (epos : Pos) : Bool := decide (S.kind y = some .local) && py.line == epos.line && !(scope.names.any fun (n, k) => n == y && (k == .local || k == .cell))
def offU (S : Sx) (i : Nat) : Bool := !S.U.contains i
def trAsg (rec : Tr) (S : Sx) (tg e : Expr) : Option T := match tg with
  | .Name y py => (S.st y).bind fun i => if offU S i then
      match e with
      | .ListComp elt gens scope epos => if decide (S.sc.kind = .function) then (rec S e).map (.set i) else none
      | _ => if isComp e then none else (rec S e).map (.set i)
    else none
  | .Tuple ts _ _ => if noStars ts then
      match e with
      | .Tuple vs _ _ => (swP S ts vs).bind fun r => match r with
        | none => (trG S 5 tg).bind fun g => if g.slots.all (offU S) then (rec S e).map (.setT g) else none
        | some _ => match ts, vs with
          | [.Name x _, .Name y _], [a, b] => (slotOf x S.N 0).bind fun i => (slotOf y S.N 0).bind fun j => if offU S i && offU S j && decide (i ≠ j) then (rec S a).bind fun ta => (rec S b).map fun tb => .par i j ta tb else none
          | [.Name x _, .Name y _, .Name z _], [a, b, c] => (slotOf x S.N 0).bind fun i => (slotOf y S.N 0).bind fun j => (slotOf z S.N 0).bind fun k => if offU S i && offU S j && offU S k && decide (i ≠ j) && decide (i ≠ k) && decide (j ≠ k) then (rec S a).bind fun ta => (rec S b).bind fun tb => (rec S c).map fun tc => .par3 i j k ta tb tc else none
          | _, _ => none
      | _ => if isComp e then none else (trG S 5 tg).bind fun g => if g.slots.all (offU S) then (rec S e).map (.setT g) else none
    else none
  | .Subscript o k _ => match o with
    | .Name x _ => if isComp e then none else match k with
      | .Slice _ _ _ _ => none
      | _ => (S.ix x).bind fun i => (rec S e).bind fun te => (rec S k).map fun tk => .setIx i tk te
    | _ => none
  | _ => none
section
variable (rec : Tr) (S : Sx)
def trS1 (recB : List Stmt → Option T) (st : Stmt) : Option T := match st with
  | .Pass _ => some .skip
  | .Break _ => some .brk
  | .Continue _ => some .cnt
  | .Expr e _ => if isComp e then none else (rec S e).map .expr
  | .Assign tgs e _ => match tgs with
    | [tg] => trAsg rec S tg e
    | _ => none
  | .Return e _ => match e with
    | none => some .retN
    | some e => (rec S e).map .ret
  | .If c a b _ => (rec S c).bind fun tc => (recB a).bind fun ta => (recB b).map fun tb => .ife (.cons tc .nil) ta tb
  | .While c b o _ => match o with
    | [] => (rec S c).bind fun tc => (recB b).map fun tb => .whl (.cons tc .nil) tb
    | _ :: _ => none
  | .For tg it b o _ => match o with
    | [] => if notSet it then (trI G rec S tg it).bind fun ti => (trG S 5 tg).bind fun g => if g.slots.all (offU S) then (recB b).map fun tb => .forr g ti tb else none else none
    | _ :: _ => none
  | .Raise exc cause _ => match exc, cause with
    | some (.Call (.Name x _) [] [] _), none => if S.gl x then (findS x G.exs).map .raise else none
    | _, _ => none
  | _ => none
def trL (f : Stmt → Option T) : List Stmt → Option T
  | [] => some .skip
  | st :: r => (f st).bind fun t => (trL f r).map fun u => .seq t u
def trS (G : Gx) (m : Nat) (S : Sx) : Nat → List Stmt → Option T
  | 0, _ => none
  | n + 1, b => trL (trS1 G (trE G m) S (trS G m S n)) b
end
end
end Wk
end T_WkR
section T_WkS
set_option maxHeartbeats 4000000
namespace Wk
open PySem PySem.Spec PyProof.Rows L2 RZ
/-! ### the translation is right: expressions -/
/-- a def of the text, as it stands -/
structure Fst (K : PySem.W.Frag) (mg : Str → Option Value) (st : Stmt) (x : Str) (ps : List Str) (f : Addr) (fd : FuncData) : Prop where
  m : mg x = some (.ref f)
  kp : PySem.W.keepIn K (.ref f) = true
  fn : L2.Fun K x x st f fd
  b0 : ∀ (s : Shared) (us : List Value), us.length = ps.length → BindsTo s fd ⟨us, []⟩ (ps.zip us)
  kw0 : ∀ (s : Shared) (ws : List Value), ws.length = ps.length → BindsTo s fd ⟨[], ps.zip ws⟩ (ps.zip ws)
theorem Fst.b {K : PySem.W.Frag} {mg : Str → Option Value} {st : Stmt} {x : Str} {ps : List Str} {f : Addr} {fd : FuncData} (F : Fst K mg st x ps f fd) : Binds K fd ps [] := fun s us _ hl => by
  rw [List.append_nil] at hl ⊢
  exact F.b0 s us hl
structure Gok (G : Gx) (Φ : Fns) (k : Nat) (cls : Exn → Option Value) (P : Program) (wd : World) (K : PySem.W.Frag) (mg : Str → Option Value) (base : Heap) : Prop where
  blt : ∀ x ∈ G.blt, mg x = none
  fns : ∀ q ∈ G.fns, ∃ f fd, Fst K mg (G.st q.2.1) q.1 q.2.2 f fd ∧ FnOk P wd K mg base (L2.CX P wd) k f fd q.2.2 (spF K cls (Φ q.2.1))
  con : ∀ q ∈ G.con, ∃ u v, mg q.1 = some u ∧ RelV v u ∧ ∀ Z, Rv K Z v q.2
  exs : ∀ q ∈ G.exs, ∃ C, mg q.1 = some (.ref C) ∧ OwnX K C ∧ cls q.2 = some (.ref C)
structure Cok (G : Gx) (Φ : Fns) (k : Nat) (w : Wi) (S : Sx) (X : Cx) : Prop where
  g : Gok G Φ k w.cls X.prog X.w X.K X.mg X.base
  N : X.N = S.N
  sc : X.env.scope = S.sc
  fn : X.fn = S.fn
  nd : X.N.Nodup
  calm : X.calm = true
  room : Room k X.A
  tk : Takes X w.W
theorem slotOf_ok {x : Str} : ∀ {N : List Str} {i j : Nat}, slotOf x N i = some j → ∃ m, j = i + m ∧ N[m]? = some x
  | [], _, _, h => by cases h
  | y :: ys, i, j, h => by
    unfold slotOf at h
    split at h
    · rename_i e
      cases h
      exact ⟨0, rfl, by rw [e]; rfl⟩
    · obtain ⟨m, e1, e2⟩ := slotOf_ok h
      exact ⟨m + 1, by omega, by simpa using e2⟩
theorem slotOf_at {x : Str} {N : List Str} {j : Nat} (h : slotOf x N 0 = some j) : N[j]? = some x := by
  obtain ⟨m, e1, e2⟩ := slotOf_ok h
  rw [show j = m by omega]
  exact e2
theorem findS_ok {α : Type} {x : Str} {a : α} : ∀ {l : List (Str × α)}, findS x l = some a → (x, a) ∈ l
  | [], h => by cases h
  | (y, b) :: r, h => by
    unfold findS at h
    split at h
    · rename_i e
      cases h
      rw [e]
      exact List.mem_cons_self
    · exact List.mem_cons_of_mem _ (findS_ok h)
theorem memS_ok {x : Str} : ∀ {l : List Str}, memS x l = true → x ∈ l
  | [], h => by cases h
  | y :: r, h => by
    unfold memS at h
    split at h
    · rename_i e
      rw [e]
      exact List.mem_cons_self
    · exact List.mem_cons_of_mem _ (memS_ok h)
theorem not_memS {x : Str} : ∀ {l : List Str}, memS x l = false → x ∉ l
  | [], _ => by simp
  | y :: r, h => by
    unfold memS at h
    split at h
    · cases h
    · rename_i e
      simp only [List.mem_cons, not_or]
      exact ⟨fun z => e z.symm, not_memS h⟩
theorem starEach_cons {e : Expr} {es : List Expr} {env : PySem.Env} (h : noStar e = true) : starEach (e :: es) env = (false, eval e env) :: starEach es env := by
  cases e <;> first | rfl | (cases h)
theorem noStars_back : ∀ {es : List Expr} {pos : Pos} {env : PySem.Env}, noStars es = true → (backTo pos (starEach es env)).any (·.1) = false
  | [], _, _, _ => rfl
  | e :: es, pos, env, h => by
    unfold noStars at h
    simp only [Bool.and_eq_true] at h
    rw [starEach_cons h.1]
    show (false || (backTo pos (starEach es env)).any (·.1)) = false
    rw [noStars_back h.2]
    rfl
theorem noStars_all : ∀ {es : List Expr} {pos : Pos} {env : PySem.Env}, noStars es = true → (backTo pos (starEach es env)).all (fun x => !x.1) = true
  | [], _, _, _ => rfl
  | e :: es, pos, env, h => by
    unfold noStars at h
    simp only [Bool.and_eq_true] at h
    rw [starEach_cons h.1]
    show (true && (backTo pos (starEach es env)).all (fun x => !x.1)) = true
    rw [noStars_all h.2]
    rfl
theorem noStars_cons {e : Expr} {es : List Expr} (h : noStars (e :: es) = true) : noStar e = true ∧ noStars es = true := by
  unfold noStars at h
  simpa only [Bool.and_eq_true] using h
theorem boOf_ok {op : Operator} {o : Bo} (h : boOf op = some o) : op = pyB o := by cases op <;> first | (cases h; rfl) | (cases h)
theorem coOf_ok {op : CmpOp} {o : Co} (h : coOf op = some o) : op = pyC o := by cases op <;> first | (cases h; rfl) | (cases h)
theorem bfOf_ok {x : Str} {n : Nat} {f : Bf} (h : bfOf x n = some f) : bootBuiltins x = some (pyF f) := by
  unfold bfOf at h
  split at h
  · repeat (split at h; · (rename_i e; cases h; subst e; decide +kernel))
    cases h
  · split at h
    · repeat (split at h; · (rename_i e; cases h; subst e; decide +kernel))
      cases h
    · cases h
theorem tyOf_ok {x : Str} {k : Ty} (h : tyOf x = some k) : x = (pyT k : Str) := by
  unfold tyOf at h
  repeat (split at h; · (rename_i e; cases h; exact e))
  cases h
theorem meOf_ok {x : Str} {n : Nat} {m : Me} (h : meOf x n = some m) : x = (nameM m : Str) ∧ (m = .append ∨ m = .extend ∨ m = .pop ∨ m = .popAt) := by
  unfold meOf at h
  split at h
  · repeat (split at h; · (rename_i e; cases h; exact ⟨e, by simp⟩))
    cases h
  · split at h
    · split at h
      · rename_i e; cases h; exact ⟨e, by simp⟩
      · cases h
    · cases h
section
variable {G : Gx} {Φ : Fns} {k : Nat} {w : Wi} {S : Sx} {X : Cx}
theorem Cok.hu (c : Cok G Φ k w S X) : X.A.units + 68 < cLine := by have := c.room.un; omega
theorem Cok.kind (c : Cok G Φ k w S X) (x : Str) : X.env.kindOf x = S.kind x := by
  unfold PySem.Env.kindOf Sx.kind
  rw [c.sc]
theorem Cok.gl (c : Cok G Φ k w S X) {x : Str} (h : S.gl x = true) : Gl X x ∧ (x == ("__debug__" : Str)) = false ∧ x ≠ "__name__" := by
  unfold Sx.gl at h
  simp only [Bool.and_eq_true, decide_eq_true_eq, Bool.not_eq_true'] at h
  exact ⟨by unfold Gl; rw [c.kind]; exact h.1.1, h.1.2, h.2⟩
theorem Cok.blt (c : Cok G Φ k w S X) {x : Str} (h : bltOk G S x = true) : Gl X x ∧ X.mg x = none ∧ (x == ("__debug__" : Str)) = false ∧ x ≠ "__name__" := by
  unfold bltOk at h
  simp only [Bool.and_eq_true] at h
  obtain ⟨h1, h2, h3⟩ := c.gl h.1
  exact ⟨h1, c.g.blt x (memS_ok h.2), h2, h3⟩
theorem Cok.ix (c : Cok G Φ k w S X) {x : Str} {i : Nat} (h : S.ix x = some i) : X.N[i]? = some x ∧ Vis X.env.scope x ∧ (x == ("__debug__" : Str)) = false ∧ (x == ("__classdict__" : Str)) = false := by
  unfold Sx.ix at h
  split at h
  · rename_i e
    simp only [Bool.and_eq_true, Bool.not_eq_true'] at e
    refine ⟨by rw [c.N]; exact slotOf_at h, ?_, e.1.2, e.2⟩
    unfold Vis
    rw [c.sc]
    have e1 := e.1.1
    unfold Sx.vis Sx.kind at e1
    split at e1
    · rename_i q; exact .inl q
    · rename_i q; exact .inr (.inl q)
    · rename_i q; exact .inr (.inr q)
    · cases e1
  · cases h
theorem Cok.st (c : Cok G Φ k w S X) {x : Str} {i : Nat} (h : S.st x = some i) : X.N[i]? = some x ∧ Loc X.env.scope x ∧ (X.fn x = true ∨ X.env.scope.names.lookup x = some .local) := by
  unfold Sx.st at h
  split at h
  · rename_i e
    simp only [Bool.and_eq_true, Bool.or_eq_true, decide_eq_true_eq] at e
    refine ⟨by rw [c.N]; exact slotOf_at h, ?_, ?_⟩
    · unfold L2.Loc
      rw [c.sc]
      have e1 := e.1
      unfold Sx.loc Sx.kind at e1
      split at e1
      · rename_i q; exact .inl q
      · rename_i q; exact .inr q
      · cases e1
    · rw [c.fn, c.sc]
      exact e.2
  · cases h
theorem Cok.blk (c : Cok G Φ k w S X) {scope : Scope} (s : Shared) (H : Hp) (C : Addr) (cl : List (Str × Addr)) (fp : List Addr) : Cok G Φ k (Wi.none w.cls) (S.blk scope) (X.blk s H scope (compEnvC scope cl C X.env) fp) where
  g := c.g
  N := c.N
  sc := by
    show relabel scope X.env = relS scope S.sc
    unfold relabel relS PySem.Env.kindOf
    rw [c.sc]
  fn := rfl
  nd := c.nd
  calm := c.calm
  room := c.room
  tk := fun u s' ⟨_, _, _, _, _, _, _, _, _, _, _, _, _, _, _, _, q⟩ => q.elim
def SoundE (G : Gx) (Φ : Fns) (k : Nat) (rec : Tr) : Prop := ∀ (w : Wi) (S : Sx) (X : Cx), Cok G Φ k w S X → ∀ (e : Expr) (t : T), rec S e = some t → PE X e (tE X.K w (ev Φ t)) ∧ PT X e (tT X.K w fun ρ => (ev Φ t ρ).bind tru)
variable {rec : Tr}
theorem trA_ok (hr : SoundE G Φ k rec) (c : Cok G Φ k w S X) : ∀ {es : List Expr} {t : T}, trA rec S es = some t → PA X es (tA X.K w (evs Φ t))
  | [], t, h => by
    cases h
    exact xNil
  | e :: es, t, h => by
    unfold trA at h
    split at h
    · rename_i ns
      obtain ⟨t1, h1, h2⟩ := Option.bind_eq_some_iff.mp h
      obtain ⟨r, h3, rfl⟩ := Option.map_eq_some_iff.mp h2
      exact xCons (starEach_cons ns) (hr w S X c e t1 h1).1 (trA_ok hr c h3)
    · cases h
theorem trB_ok (hr : SoundE G Φ k rec) (c : Cok G Φ k w S X) {op : BoolOp} {pos : Pos} : ∀ {es : List Expr} {t : T}, trB rec S op es = some t → PE X (.BoolOp op es pos) (tE X.K w (ev Φ t)) ∧ PW X (.BoolOp op es pos) (tT X.K w fun ρ => (ev Φ t ρ).bind tru)
  | [], t, h => by cases h
  | [e], t, h => by
    have h : rec S e = some t := h
    obtain ⟨h1, h2⟩ := hr w S X c e t h
    refine ⟨xOne h1, ?_⟩
    cases op with
    | And => exact xAnd1 h2
    | Or => exact xOr1 h2
  | e :: e2 :: es, t, h => by
    unfold trB at h
    dsimp only at h
    obtain ⟨t1, h1, h2⟩ := Option.bind_eq_some_iff.mp h
    obtain ⟨r, h3, h4⟩ := Option.map_eq_some_iff.mp h2
    obtain ⟨q1, q2⟩ := hr w S X c e t1 h1
    obtain ⟨r1, r2⟩ := trB_ok hr c (op := op) (pos := pos) h3
    cases op with
    | And => subst h4; exact ⟨xAnd q1 r1, xAndT q2 r2⟩
    | Or => subst h4; exact ⟨xOr q1 r1, xOrT q2 r2⟩
theorem trP_ok (hr : SoundE G Φ k rec) (c : Cok G Φ k w S X) {p : Option Expr} {t : T} (h : trP rec S p = some t) : PO X p (tP X.K w (evp Φ t)) := by
  cases p with
  | none => cases h; exact xPartN
  | some e =>
    obtain ⟨t1, h1, rfl⟩ := Option.map_eq_some_iff.mp h
    exact xPart (hr w S X c e t1 h1).1
theorem trName_ok (c : Cok G Φ k w S X) {x : Str} {t : T} {pos : Pos} (h : trName G S x = some t) : PE X (.Name x pos) (tE X.K w (ev Φ t)) := by
  unfold trName at h
  split at h
  · rename_i i e
    cases h
    obtain ⟨h1, h2, h3, h4⟩ := c.ix e
    exact xVar h1 h2 h3 h4 Φ
  · split at h
    · rename_i e
      obtain ⟨d, h1, rfl⟩ := Option.map_eq_some_iff.mp h
      obtain ⟨g1, g2, g3⟩ := c.gl e
      obtain ⟨u, v, m, r, z⟩ := c.g.con _ (findS_ok h1)
      exact xLit (pe_glob g1 m r g2) z Φ
    · cases h
theorem litOf_ok {cc : Const} {d : PyData} {i : Nat} {pos : Pos} (h : litOf cc = some d) : PE X (.Constant cc i pos) (tE X.K w (ev Φ (.lit d))) := by
  cases cc with
  | none => cases h; exact xLit pe_non (fun _ => .non) Φ
  | bool b => cases h; exact xLit pe_bl (fun _ => .bl b) Φ
  | int i => cases h; exact xLit pe_int (fun _ => .int i) Φ
  | str s => cases h; exact xLit pe_str (fun _ => .str s) Φ
  | _ => cases h
theorem and2 {a b : Bool} (h : (a && b) = true) : a = true ∧ b = true := by simpa only [Bool.and_eq_true] using h
theorem trIsi_ok (hr : SoundE G Φ k rec) (c : Cok G Φ k w S X) {a ty : Expr} {t : T} {p pos : Pos} (h : trIsi G rec S a ty = some t) : PE X (.Call (.Name "isinstance" p) [a, ty] [] pos) (tE X.K w (ev Φ t)) := by
  unfold trIsi at h
  split at h
  · rename_i x p2
    split at h
    · rename_i e
      obtain ⟨e, e3⟩ := and2 e
      obtain ⟨e1, e2⟩ := and2 e
      obtain ⟨ky, h1, h2⟩ := Option.bind_eq_some_iff.mp h
      obtain ⟨ta, h3, rfl⟩ := Option.map_eq_some_iff.mp h2
      have := tyOf_ok h1
      subst this
      obtain ⟨g1, g2, _⟩ := c.blt e1
      obtain ⟨g3, g4, _⟩ := c.blt e2
      exact xIsi1 g1 g2 g3 g4 (starEach_cons e3) (hr w S X c a ta h3).1
    · cases h
  · rename_i es x1 p4
    split at h
    · rename_i x p2 y p3
      split at h
      · rename_i e
        obtain ⟨e, e4⟩ := and2 e
        obtain ⟨e, e3⟩ := and2 e
        obtain ⟨e1, e2⟩ := and2 e
        obtain ⟨ky, h1, h2⟩ := Option.bind_eq_some_iff.mp h
        obtain ⟨kz, h3, h4⟩ := Option.bind_eq_some_iff.mp h2
        obtain ⟨ta, h5, rfl⟩ := Option.map_eq_some_iff.mp h4
        have q1 := tyOf_ok h1
        have q2 := tyOf_ok h3
        subst q1 q2
        obtain ⟨g1, g2, _⟩ := c.blt e1
        obtain ⟨g3, g4, _⟩ := c.blt e2
        obtain ⟨g5, g6, _⟩ := c.blt e3
        exact xIsi2 g1 g2 g3 g4 g5 g6 (starEach_cons e4) (hr w S X c a ta h5).1
      · cases h
    · cases h
  · cases h
/-- what range(..) was -/
theorem trRg_inv {e : Expr} {t : T} (h : trRg G rec S e = some t) : bltOk G S "range" = true ∧ ((∃ p a pos ta, e = .Call (.Name "range" p) [a] [] pos ∧ noStar a = true ∧ rec S a = some ta ∧ t = .rng1 ta) ∨
    (∃ p a b pos ta tb, e = .Call (.Name "range" p) [a, b] [] pos ∧ noStar a = true ∧ noStar b = true ∧ rec S a = some ta ∧ rec S b = some tb ∧ t = .rng2 ta tb)) := by
  unfold trRg at h
  split at h
  · rename_i r p args pos
    split at h
    · rename_i e
      obtain ⟨e1, e2⟩ := and2 e
      have e1 := of_decide_eq_true e1
      subst e1
      refine ⟨e2, ?_⟩
      split at h
      · rename_i a
        split at h
        · rename_i ns
          obtain ⟨ta, h1, rfl⟩ := Option.map_eq_some_iff.mp h
          exact .inl ⟨_, _, _, _, rfl, ns, h1, rfl⟩
        · cases h
      · rename_i a b
        split at h
        · rename_i ns
          obtain ⟨n1, n2⟩ := and2 ns
          obtain ⟨ta, h1, h2⟩ := Option.bind_eq_some_iff.mp h
          obtain ⟨tb, h3, rfl⟩ := Option.map_eq_some_iff.mp h2
          exact .inr ⟨_, _, _, _, _, _, rfl, n1, n2, h1, h3, rfl⟩
        · cases h
      · cases h
    · cases h
  · cases h
theorem trPlain_ok (hr : SoundE G Φ k rec) (c : Cok G Φ k w S X) {x : Str} {args : List Expr} {t : T} {p pos : Pos} (h : trPlain G rec S x args = some t) : PE X (.Call (.Name x p) args [] pos) (tE X.K w (ev Φ t)) := by
  unfold trPlain at h
  split at h
  · split at h
    · rename_i hg
      obtain ⟨g1, g2, g3⟩ := c.gl hg
      obtain ⟨q, h1, h2⟩ := Option.bind_eq_some_iff.mp h
      split at h2
      · rename_i hl
        cases h2
        obtain ⟨f, fd, FF, m5⟩ := c.g.fns _ (findS_ok h1)
        exact xCall0 m5 c.room g1 FF.m FF.kp FF.b c.tk g2
      · cases h2
    · cases h
  · rename_i e es
    split at h
    · rename_i ns
      obtain ⟨n1, n2⟩ := noStars_cons ns
      split at h
      · rename_i f hf
        split at h
        · rename_i hb
          obtain ⟨ta, h1, rfl⟩ := Option.map_eq_some_iff.mp h
          obtain ⟨g1, g2, g3, g4⟩ := c.blt hb
          exact xBi c.calm c.hu g1 g2 (bfOf_ok hf) g4 g3 (starEach_cons n1) (noStars_back n2) (trA_ok hr c h1)
        · cases h
      · split at h
        · rename_i hg
          obtain ⟨g1, g2, g3⟩ := c.gl hg
          obtain ⟨q, h1, h2⟩ := Option.bind_eq_some_iff.mp h
          split at h2
          · obtain ⟨ta, h3, rfl⟩ := Option.map_eq_some_iff.mp h2
            obtain ⟨f, fd, FF, m5⟩ := c.g.fns _ (findS_ok h1)
            have m1 := FF.m
            have m2 := FF.kp
            have m3 := FF.b
            have m4 : ∀ (s : Shared) (ws : List Value), X.K.In s.heap → ws.length = q.2.length → BindsTo s fd ⟨[], q.2.zip ws⟩ (q.2.zip ws) := fun s ws _ hl => FF.kw0 s ws hl
            exact xCall m5 c.room g1 m1 m2 m3 c.tk g2 (starEach_cons n1) (noStars_back n2) (trA_ok hr c h3)
          · cases h2
        · cases h
    · cases h
theorem trSeq_ok (hr : SoundE G Φ k rec) (c : Cok G Φ k w S X) {x : Str} {args : List Expr} {t : T} {p pos : Pos} (h : trSeq G rec S x args = some t) : PE X (.Call (.Name x p) args [] pos) (tE X.K w (ev Φ t)) := by
  unfold trSeq at h
  split at h
  · rename_i e
    obtain ⟨r, h1, h2⟩ := Option.bind_eq_some_iff.mp h
    obtain ⟨hb, hc⟩ := trRg_inv h1
    obtain ⟨g1, g2, _⟩ := c.blt hb
    rcases hc with ⟨p2, a, pos2, ta, rfl, na, ra, rfl⟩ | ⟨p2, a, b, pos2, ta, tb, rfl, na, nb, ra, rb, rfl⟩
    · dsimp only at h2
      split at h2
      · rename_i e
        obtain ⟨e1, e2⟩ := and2 e
        have e1 := of_decide_eq_true e1
        subst e1
        cases h2
        obtain ⟨f1, f2, _⟩ := c.blt e2
        exact xListRg1 c.calm f1 f2 g1 g2 (starEach_cons na) (hr w S X c a ta ra).1
      · split at h2
        · rename_i e
          obtain ⟨e1, e2⟩ := and2 e
          have e1 := of_decide_eq_true e1
          subst e1
          cases h2
          obtain ⟨f1, f2, _⟩ := c.blt e2
          exact xTupRg1 c.calm f1 f2 g1 g2 (starEach_cons na) (hr w S X c a ta ra).1
        · cases h2
    · dsimp only at h2
      split at h2
      · rename_i e
        obtain ⟨e1, e2⟩ := and2 e
        have e1 := of_decide_eq_true e1
        subst e1
        cases h2
        obtain ⟨f1, f2, _⟩ := c.blt e2
        exact xListRg2 c.calm f1 f2 g1 g2 (starEach_cons na) (starEach_cons nb) (by rw [starEach_cons nb]; rfl) (hr w S X c a ta ra).1 (hr w S X c b tb rb).1
      · cases h2
  · cases h
theorem trV_ok (hr : SoundE G Φ k rec) (c : Cok G Φ k w S X) : ∀ {kws : List Keyword} {t : T}, trV rec S (kwVals kws) = some t → PK X kws (tA X.K w (evs Φ t))
  | [], t, h => by
    cases h
    refine ⟨fun pos pins s σ H Q I h => pk_nil.run pos pins s σ H Q I ?_⟩
    obtain ⟨Z, ρ, er, h⟩ := h
    exact h.ok_now er _ .nil
  | ⟨nm, e, kpos⟩ :: kws, t, h => by
    have h : ((rec S e).bind fun t => (trV rec S (kwVals kws)).map fun r => T.cons t r) = some t := h
    obtain ⟨t1, h1, h2⟩ := Option.bind_eq_some_iff.mp h
    obtain ⟨r, h3, rfl⟩ := Option.map_eq_some_iff.mp h2
    refine ⟨fun pos pins s σ H Q I hh => (pk_cons (nm := nm) (kpos := kpos) (hr w S X c e t1 h1).1 (trV_ok hr c h3)).run pos pins s σ H Q I ?_⟩
    obtain ⟨Z, ρ, er, hh⟩ := hh
    refine tE_then er hh fun r v Z1 H1 ρ1 p1 v1 h1 => ?_
    refine tA_then p1.er h1 fun rs vs Z2 H2 ρ2 p2 v2 h2 => ?_
    exact h2.ok_now p2.er _ (.cons (v1.mono p2.st.z) v2)
theorem kw_all {pos : Pos} {env : PySem.Env} : ∀ {kws : List Keyword} {ps : List Str}, kwNames kws = ps.map some → (backToKw pos (keywordEach kws env)).all (·.1.isSome) = true ∧ (backToKw pos (keywordEach kws env)).filterMap (·.1) = ps ∧ (backToKw pos (keywordEach kws env)).any (·.1.isNone) = false
  | [], ps, h => by
    cases ps with
    | nil => exact ⟨rfl, rfl, rfl⟩
    | cons p ps => cases h
  | ⟨nm, e, kpos⟩ :: kws, ps, h => by
    cases ps with
    | nil => cases h
    | cons p ps =>
      have h : nm :: kwNames kws = some p :: ps.map some := h
      injection h with h1 h2
      subst h1
      obtain ⟨q1, q2, q3⟩ := kw_all (pos := pos) (env := env) h2
      refine ⟨?_, ?_, ?_⟩
      · show (true && (backToKw pos (keywordEach kws env)).all (·.1.isSome)) = true
        rw [q1]; rfl
      · show p :: (backToKw pos (keywordEach kws env)).filterMap (·.1) = p :: ps
        rw [q2]
      · show (false || (backToKw pos (keywordEach kws env)).any (·.1.isNone)) = false
        rw [q3]; rfl
theorem starEach_len : ∀ {es : List Expr} {env : PySem.Env}, noStars es = true → (starEach es env).length = es.length
  | [], _, _ => rfl
  | e :: es, env, h => by
    obtain ⟨n1, n2⟩ := noStars_cons h
    rw [starEach_cons n1]
    simp [starEach_len n2]
theorem trCall_ok (hr : SoundE G Φ k rec) (c : Cok G Φ k w S X) {f : Expr} {args : List Expr} {kws : List Keyword} {t : T} {pos : Pos} (h : trCall G rec S f args kws pos = some t) : PE X (.Call f args kws pos) (tE X.K w (ev Φ t)) := by
  unfold trCall at h
  split at h
  · rename_i x p
    split at h
    · split at h
      · rename_i e
        subst e
        split at h
        · exact trIsi_ok hr c h
        · cases h
      · split at h
        · rename_i t' e
          cases h
          exact trSeq_ok hr c e
        · exact trPlain_ok hr c h
    · rename_i k0 ks
      split at h
      · split at h
        · rename_i hg
          obtain ⟨g1, g2, g3⟩ := c.gl hg
          obtain ⟨q, h1, h2⟩ := Option.bind_eq_some_iff.mp h
          split at h2
          · rename_i hk
            obtain ⟨ta, h3, rfl⟩ := Option.map_eq_some_iff.mp h2
            obtain ⟨f, fd, FF, m5⟩ := c.g.fns _ (findS_ok h1)
            have m1 := FF.m
            have m2 := FF.kp
            have m3 := FF.b
            have m4 : ∀ (s : Shared) (ws : List Value), X.K.In s.heap → ws.length = q.2.length → BindsTo s fd ⟨[], q.2.zip ws⟩ (q.2.zip ws) := fun s ws _ hl => FF.kw0 s ws hl
            obtain ⟨q1, q2, q3⟩ := kw_all (pos := pos) (env := X.env) hk
            exact xCallK m5 c.room g1 m1 m2 m4 c.tk q1 q2 g2 (by rw [q3]; rfl) (trV_ok hr c h3)
          · cases h2
        · cases h
      · cases h
  · rename_i o m apos
    split at h
    · rename_i em
      subst em
      split at h
      · rename_i b
        split at h
        · rename_i hl
          obtain ⟨hl, hn⟩ := and2 hl
          obtain ⟨n1, n2⟩ := and2 hn
          obtain ⟨to, h1, h2⟩ := Option.bind_eq_some_iff.mp h
          obtain ⟨tb, h3, rfl⟩ := Option.map_eq_some_iff.mp h2
          have hu := c.hu
          refine xIdx (by omega) (hr w S X c o to h1).1 (hr w S X c b tb h3).1 ?_ ?_ hl (starEach_cons n1) rfl
          · cases o <;> first | rfl | cases n2
          · rw [starEach_cons n1]
            rfl
        · cases h
      · cases h
    split at h
    · rename_i x p
      split at h
      · split at h
        · rename_i hl
          obtain ⟨i, h1, h2⟩ := Option.bind_eq_some_iff.mp h
          obtain ⟨me, h3, h4⟩ := Option.bind_eq_some_iff.mp h2
          split at h4
          · rename_i hn
            obtain ⟨hn, hlen⟩ := and2 hn
            have hlen := of_decide_eq_true hlen
            obtain ⟨ta, h5, rfl⟩ := Option.map_eq_some_iff.mp h4
            obtain ⟨q1, q2⟩ := meOf_ok h3
            obtain ⟨v1, v2, v3, v4⟩ := c.ix h1
            subst q1
            cases args with
            | nil =>
              cases h5
              refine PE.imp (xMeth0 (w := w) q2 v1 v2 v3 v4 hl) fun σ H Q ⟨Z, ρ, er, hh⟩ => ⟨Z, ρ, er, ?_⟩
              have e0 : ev Φ (.meth me i .nil) ρ = (match ρ[i]? with
                | some (.bx _) => (Out.ok ([] : List Vl) ρ).bind fun vs ρ1 => (fzs vs ρ1).bind fun ds ρ2 => methV me i ds ρ2
                | _ => .stuck) := rfl
              rw [e0] at hh
              split at hh
              · rename_i ds e
                dsimp only
                rw [e]
                exact hh
              · exact hh.elim
            | cons e es =>
              obtain ⟨n1, n2⟩ := noStars_cons hn
              refine xMeth (e := e) (es := es) q2 v1 v2 v3 v4 ?_ hl (starEach_cons n1) (noStars_back n2) (trA_ok hr c h5)
              rw [noStars_all hn]
              have : decide ((e :: es).length + ([] : List Keyword).length + (if ([] : List Keyword).isEmpty then 0 else 1) < 30) = true := decide_eq_true (by simp at hlen ⊢; omega)
              rw [this]
              rfl
          · cases h4
        · cases h
      · cases h
    · cases h
  · cases h
end
end Wk
end T_WkS
section T_WkT
set_option maxHeartbeats 4000000
namespace Wk
open PySem PySem.Spec PyProof.Rows L2 RZ
section
variable {G : Gx} {Φ : Fns} {k : Nat} {w : Wi} {S : Sx} {X : Cx} {rec : Tr}
theorem assignEach_cons {e : Expr} {es : List Expr} {env : PySem.Env} (h : noStar e = true) : assignEach (e :: es) env = (false, assign e env) :: assignEach es env := by
  cases e <;> first | rfl | (cases h)
theorem assignEach_len : ∀ {es : List Expr} {env : PySem.Env}, noStars es = true → (assignEach es env).length = es.length ∧ (assignEach es env).findIdx? (·.1) = none
  | [], _, _ => ⟨rfl, rfl⟩
  | e :: es, env, h => by
    obtain ⟨n1, n2⟩ := noStars_cons h
    obtain ⟨q1, q2⟩ := assignEach_len (env := env) n2
    rw [assignEach_cons n1]
    refine ⟨by simp [q1], ?_⟩
    rw [List.findIdx?_cons]
    simp [q2]
theorem trG_ok (c : Cok G Φ k w S X) : ∀ {n : Nat} {e : Expr} {g : Tg}, trG S n e = some g → PG X e (tG X.K g)
  | 0, _, _, h => by cases h
  | n + 1, e, g, h => by
    unfold trG at h
    split at h
    · rename_i x p
      obtain ⟨i, h1, rfl⟩ := Option.map_eq_some_iff.mp h
      obtain ⟨q1, q2, q3⟩ := c.st h1
      exact gName_ok c.nd q1 q2 q3
    · rename_i es kk p
      split at h
      · rename_i ns
        obtain ⟨t, h1, rfl⟩ := Option.map_eq_some_iff.mp h
        have go : ∀ {es : List Expr} {t : Tg}, noStars es = true → trG.go (trG S n) es = some t → PGs X es (tGs X.K t) ∧ es.length = t.len := by
          intro es
          induction es with
          | nil => intro t _ h; cases h; exact ⟨gNil_ok, rfl⟩
          | cons e es ih =>
            intro t ns h
            obtain ⟨n1, n2⟩ := noStars_cons ns
            have h : ((trG S n e).bind fun h => (trG.go (trG S n) es).map fun t => Tg.cons h t) = some t := h
            obtain ⟨t1, h1, h2⟩ := Option.bind_eq_some_iff.mp h
            obtain ⟨r, h3, rfl⟩ := Option.map_eq_some_iff.mp h2
            obtain ⟨i1, i2⟩ := ih n2 h3
            exact ⟨gCons_ok (trG_ok c h1) i1 (by rw [assignEach_cons n1]; rfl), by simp [Tg.len, i2]⟩
        obtain ⟨q1, q2⟩ := go ns h1
        obtain ⟨a1, a2⟩ := assignEach_len (env := X.env) ns
        exact gTup_ok c.calm q1 (a1.trans q2) a2
      · cases h
    · cases h
theorem trG_tp {S : Sx} : ∀ {n : Nat} {e : Expr} {g : Tg}, trG S n e = some g → g.isTp = isTup e
  | 0, _, _, h => by cases h
  | n + 1, e, g, h => by
    unfold trG at h
    split at h
    · obtain ⟨i, h1, rfl⟩ := Option.map_eq_some_iff.mp h
      rfl
    · split at h
      · obtain ⟨t, h1, rfl⟩ := Option.map_eq_some_iff.mp h
        rfl
      · cases h
    · cases h
theorem trI_ok (hr : SoundE G Φ k rec) (c : Cok G Φ k w S X) {tg iter : Expr} {t : T} (h : trI G rec S tg iter = some t) : PI X tg iter (tI X.K w (isTup tg) (evi Φ t)) ∧ ∀ x, foldedSetIterable iter X.env x = pure x := by
  unfold trI at h
  split at h
  · rename_i f p args pos
    refine ⟨?_, fun x => rfl⟩
    split at h
    · rename_i e
      obtain ⟨hb, hc⟩ := trRg_inv h
      obtain ⟨g1, g2, _⟩ := c.blt hb
      rcases hc with ⟨p2, a, pos2, ta, e1, na, ra, rfl⟩ | ⟨p2, a, b, pos2, ta, tb, e1, na, nb, ra, rb, rfl⟩
      · rw [e1]
        exact xRng1 g1 g2 (starEach_cons na) (hr w S X c a ta ra).1
      · rw [e1]
        exact xRng2 g1 g2 (by rw [starEach_cons na, starEach_cons nb]; rfl) (starEach_cons nb) (hr w S X c a ta ra).1 (hr w S X c b tb rb).1
    · split at h
      · rename_i e
        subst e
        split at h
        · rename_i hb
          obtain ⟨hb, ht⟩ := and2 hb
          obtain ⟨g1, g2, _⟩ := c.blt hb
          split at h
          · rename_i a
            split at h
            · rename_i na
              obtain ⟨ta, h1, rfl⟩ := Option.map_eq_some_iff.mp h
              cases tg with
              | Tuple es kk tp => exact xEnum g1 g2 (starEach_cons na) (hr w S X c a ta h1).1
              | _ => cases ht
            · cases h
          · cases h
        · cases h
      · split at h
        · rename_i e
          subst e
          split at h
          · rename_i hb
            obtain ⟨hb, ht⟩ := and2 hb
            obtain ⟨g1, g2, _⟩ := c.blt hb
            split at h
            · rename_i a b
              split at h
              · rename_i na
                obtain ⟨na, nb⟩ := and2 na
                obtain ⟨ta, h1, h2⟩ := Option.bind_eq_some_iff.mp h
                obtain ⟨tb, h3, rfl⟩ := Option.map_eq_some_iff.mp h2
                cases tg with
                | Tuple es kk tp => exact xZip g1 g2 (starEach_cons na) (starEach_cons nb) (by rw [starEach_cons nb]; rfl) (hr w S X c a ta h1).1 (hr w S X c b tb h3).1
                | _ => cases ht
              · cases h
            · cases h
          · cases h
        · obtain ⟨ta, h1, rfl⟩ := Option.map_eq_some_iff.mp h
          exact xDat (hr w S X c _ ta h1).1
  · cases h
  · rename_i n1 n2
    obtain ⟨ta, h1, rfl⟩ := Option.map_eq_some_iff.mp h
    refine ⟨xDat (hr w S X c _ ta h1).1, fun x => ?_⟩
    cases iter <;> first | rfl | exact (n2 _ _ _ rfl).elim
theorem trIf_ok (hr : SoundE G Φ k rec) (c : Cok G Φ k w S X) {ifs : List Expr} {t : T} (h : trIf rec S ifs = some t) : PTs X ifs (tT X.K w (evc Φ t)) := by
  unfold trIf at h
  split at h
  · cases h; exact xTsN
  · rename_i e
    obtain ⟨ta, h1, rfl⟩ := Option.map_eq_some_iff.mp h
    exact xTs1 (hr w S X c e ta h1).2
  · cases h
theorem ownOf_local {N : List Str} : ∀ {ns : List (Str × NameKind)} {y : Str} {i : Nat}, slotOf y N 0 = some i → ((y, NameKind.local) ∈ ns ∨ (y, NameKind.cell) ∈ ns) → y ∈ (ownOf N ns).map (·.1) := by
  intro ns
  induction ns with
  | nil => intro y i _ h; simp at h
  | cons a ns ih =>
    obtain ⟨z, kz⟩ := a
    intro y i h hm
    unfold ownOf
    have tail : ((y, NameKind.local) ∈ ns ∨ (y, NameKind.cell) ∈ ns) → y ∈ (ownOf N ns).map (·.1) := ih h
    have hm' : (z = y ∧ (kz = .local ∨ kz = .cell)) ∨ ((y, NameKind.local) ∈ ns ∨ (y, NameKind.cell) ∈ ns) := by
      rcases hm with q | q <;> rcases List.mem_cons.mp q with e | e
      · cases e; exact .inl ⟨rfl, .inl rfl⟩
      · exact .inr (.inl e)
      · cases e; exact .inl ⟨rfl, .inr rfl⟩
      · exact .inr (.inr e)
    split
    · rcases hm' with ⟨rfl, _⟩ | q
      · exact List.mem_cons_self
      · exact List.mem_cons_of_mem _ (tail q)
    · rcases hm' with ⟨rfl, _⟩ | q
      · exact List.mem_cons_self
      · exact List.mem_cons_of_mem _ (tail q)
    · rename_i n1 n2
      rcases hm' with ⟨rfl, q | q⟩ | q
      · exact (n1 i q h).elim
      · exact (n2 i q h).elim
      · exact tail q
theorem blkOk_ok {N : List Str} {sc scope : Scope} {own : List (Str × Nat)} (h : blkOk N sc scope own = true) : BlkOk N sc scope own := by
  unfold blkOk at h
  obtain ⟨h, h5⟩ := and2 h
  obtain ⟨h, h4⟩ := and2 h
  obtain ⟨h, h3⟩ := and2 h
  obtain ⟨h1, h2⟩ := and2 h
  refine ⟨of_decide_eq_true h1, fun y hy => of_decide_eq_true (List.all_eq_true.mp h2 y hy), fun p hp => of_decide_eq_true (List.all_eq_true.mp h3 p hp), fun y hy e => ?_, fun y hy e => ?_⟩
  · have q := List.all_eq_true.mp h4 y hy
    simp only [Bool.or_eq_true, Bool.not_eq_true', decide_eq_true_eq, decide_eq_false_iff_not] at q
    rcases q with (q | q) | q
    · exact absurd e q
    · exact .inl q
    · exact .inr q
  · have q := List.all_eq_true.mp h5 y hy
    simp only [Bool.or_eq_true, Bool.not_eq_true'] at q
    rcases q with (q | q) | q
    · have q' : (decide (y.2 = NameKind.local) || decide (y.2 = NameKind.cell)) = false := q
      simp only [Bool.or_eq_false_iff, decide_eq_false_iff_not] at q'
      rcases e with e | e
      · exact absurd e q'.1
      · exact absurd e q'.2
    · exact .inl (memS_ok q)
    · exact .inr (not_memS q)
/-- what a comprehension was -/
theorem trComp_inv (hr : SoundE G Φ k rec) (c : Cok G Φ k w S X) {elt : Expr} {gens : List Comprehension} {scope : Scope} {t : T} (h : trComp G rec S elt gens scope = some t) :
    ∃ tg iter ifs ti g tc te, gens = [⟨tg, iter, ifs, 0⟩] ∧ t = .comp g ((ownOf S.N scope.names).map (·.2)) ti tc te ∧ (∀ j ∈ g.slots, j ∈ (ownOf S.N scope.names).map (·.2)) ∧ PI X tg iter (tI X.K w g.isTp (evi Φ ti)) ∧ BlkOk X.N X.env.scope scope (ownOf S.N scope.names) ∧
      (∀ (s : Shared) (H : Hp) (C : Addr) (cl : List (Str × Addr)) (fp : List Addr), PG (X.blk s H scope (compEnvC scope cl C X.env) fp) tg (tG X.K g)) ∧
      (∀ (s : Shared) (H : Hp) (C : Addr) (cl : List (Str × Addr)) (fp : List Addr), PTs (X.blk s H scope (compEnvC scope cl C X.env) fp) ifs (tT X.K (Wi.none w.cls) (evc Φ tc))) ∧
      (∀ (s : Shared) (H : Hp) (C : Addr) (cl : List (Str × Addr)) (fp : List Addr), PE (X.blk s H scope (compEnvC scope cl C X.env) fp) elt (tE X.K (Wi.none w.cls) (ev Φ te))) ∧ (∀ x, foldedSetIterable iter X.env x = pure x) := by
  unfold trComp at h
  split at h
  · rename_i g
    obtain ⟨tg, iter, ifs, a⟩ := g
    split at h
    · rename_i ea
      have ea : a = 0 := ea
      subst ea
      dsimp only at h
      obtain ⟨ti, h1, h⟩ := Option.bind_eq_some_iff.mp h
      obtain ⟨tgt, h2, h⟩ := Option.bind_eq_some_iff.mp h
      obtain ⟨tc, h3, h⟩ := Option.bind_eq_some_iff.mp h
      obtain ⟨te, h4, h⟩ := Option.bind_eq_some_iff.mp h
      split at h
      · rename_i e
        cases h
        obtain ⟨b1, b2⟩ := and2 e
        obtain ⟨i1, i2⟩ := trI_ok hr c h1
        refine ⟨tg, iter, ifs, ti, tgt, tc, te, rfl, rfl, fun j hj => ?_, by rw [trG_tp h2]; exact i1, ?_, fun s H C cl fp => trG_ok (c.blk s H C cl fp) h2, fun s H C cl fp => trIf_ok hr (c.blk s H C cl fp) h3, fun s H C cl fp => (hr _ _ _ (c.blk s H C cl fp) _ _ h4).1, i2⟩
        · have q := List.all_eq_true.mp b2 j hj
          simpa using q
        · rw [c.N, c.sc]; exact blkOk_ok b1
      · cases h
    · cases h
  · cases h
theorem pt_ifExpT {c a b : Expr} {pos : Pos} {tc ta tb : TT} (hc : PT X c tc) (ha : PT X a ta) (hb : PT X b tb) : PT X (.IfExp c a b pos) (fun σ H Q => tc σ H fun k H1 => if k = true then ta σ H1 Q else tb σ H1 Q) := by
  refine ⟨fun pins s σ H Q I h => ?_⟩
  unfold PySem.isTrue
  refine wpAny_bind (thn (hc.run pins s σ H _ I h) fun kk s1 ⟨H1, I1, q1⟩ => ?_)
  cases kk with
  | true => exact ha.run pins s1 σ H1 Q I1 q1
  | false => exact hb.run pins s1 σ H1 Q I1 q1
theorem xIteT {c a b : Expr} {pos : Pos} {ga gb gc : Env → Out Vl} (hc : PT X c (tT X.K w fun ρ => (gc ρ).bind tru)) (ha : PT X a (tT X.K w fun ρ => (ga ρ).bind tru)) (hb : PT X b (tT X.K w fun ρ => (gb ρ).bind tru)) : PT X (.IfExp c a b pos) (tT X.K w fun ρ => (((gc ρ).bind tru).bind fun k ρ1 => if k then ga ρ1 else gb ρ1).bind tru) := by
  refine PT.imp (pt_ifExpT hc ha hb) fun σ H Q ⟨Z, ρ, er, h⟩ => ?_
  dsimp only at h
  rw [Out.assoc] at h
  refine tT_then er h fun kk Z1 H1 ρ1 p1 h1 => ?_
  cases kk with
  | true => exact iteT ⟨Z1, ρ1, p1.er, h1⟩
  | false => exact iteF ⟨Z1, ρ1, p1.er, h1⟩
theorem trE1_ok (hr : SoundE G Φ k rec) : SoundE G Φ k (trE1 G rec) := by
  intro w S X c e t h
  have plain : ∀ {e : Expr} {t : T}, PE X e (tE X.K w (ev Φ t)) → (∀ whole, isTrue e X.env whole = (do let v ← whole; standAt e.pos; holding [v] (truthy v))) → PE X e (tE X.K w (ev Φ t)) ∧ PT X e (tT X.K w fun ρ => (ev Φ t ρ).bind tru) := fun h he => ⟨h, xTruth h he⟩
  unfold trE1 at h
  split at h
  · obtain ⟨d, h1, rfl⟩ := Option.map_eq_some_iff.mp h
    exact plain (litOf_ok h1) fun _ => rfl
  · exact plain (trName_ok c h) fun _ => rfl
  · rename_i op a pos
    split at h
    · obtain ⟨ta, h1, rfl⟩ := Option.map_eq_some_iff.mp h
      obtain ⟨q1, q2⟩ := hr w S X c a ta h1
      exact ⟨xNot (gt := fun _ => .stuck) q1, xNotT q2⟩
    · obtain ⟨ta, h1, rfl⟩ := Option.map_eq_some_iff.mp h
      exact plain (xNeg (hr w S X c a ta h1).1) fun _ => rfl
    · cases h
  · rename_i a op b pos
    obtain ⟨o, h0, h⟩ := Option.bind_eq_some_iff.mp h
    obtain ⟨ta, h1, h⟩ := Option.bind_eq_some_iff.mp h
    obtain ⟨tb, h2, rfl⟩ := Option.map_eq_some_iff.mp h
    rw [boOf_ok h0]
    exact plain (xBin (hr w S X c a ta h1).1 (hr w S X c b tb h2).1) fun _ => rfl
  · rename_i a ops bs pos
    split at h
    · rename_i op b
      split at h
      · cases h
      · rename_i hm
        obtain ⟨o, h0, h⟩ := Option.bind_eq_some_iff.mp h
        obtain ⟨ta, h1, h⟩ := Option.bind_eq_some_iff.mp h
        obtain ⟨tb, h2, rfl⟩ := Option.map_eq_some_iff.mp h
        have e := coOf_ok h0
        subst e
        have hm : behindInMarks (pyC o) b = false := by simpa using hm
        have hu := c.hu
        exact ⟨xCmp (by omega) hm (hr w S X c a ta h1).1 (hr w S X c b tb h2).1, xCmpT (by omega) hm (hr w S X c a ta h1).1 (hr w S X c b tb h2).1⟩
    · rename_i op op2 b cc
      split at h
      · cases h
      · rename_i hm
        obtain ⟨o, h0, h⟩ := Option.bind_eq_some_iff.mp h
        obtain ⟨o2, h02, h⟩ := Option.bind_eq_some_iff.mp h
        obtain ⟨ta, h1, h⟩ := Option.bind_eq_some_iff.mp h
        obtain ⟨tb, h2, h⟩ := Option.bind_eq_some_iff.mp h
        obtain ⟨tc, h3, rfl⟩ := Option.map_eq_some_iff.mp h
        have e := coOf_ok h0
        subst e
        have e := coOf_ok h02
        subst e
        have hm : lastMarks [pyC o, pyC o2] [b, cc] = false := by simpa using hm
        have hu := c.hu
        exact ⟨xChain (by omega) hm (hr w S X c a ta h1).1 (hr w S X c b tb h2).1 (hr w S X c cc tc h3).1, xChainT (by omega) hm (hr w S X c a ta h1).1 (hr w S X c b tb h2).1 (hr w S X c cc tc h3).1⟩
    · cases h
  · rename_i op es pos
    obtain ⟨q1, q2⟩ := trB_ok hr c (pos := pos) h
    exact ⟨q1, q2.pt⟩
  · rename_i cc a b pos
    obtain ⟨tc, h0, h⟩ := Option.bind_eq_some_iff.mp h
    obtain ⟨ta, h1, h⟩ := Option.bind_eq_some_iff.mp h
    obtain ⟨tb, h2, rfl⟩ := Option.map_eq_some_iff.mp h
    have q := xIte (pos := pos) (hr w S X c cc tc h0).2 (hr w S X c a ta h1).1 (hr w S X c b tb h2).1
    exact ⟨q, xIteT (hr w S X c cc tc h0).2 (hr w S X c a ta h1).2 (hr w S X c b tb h2).2⟩
  · rename_i es kk pos
    split at h
    · obtain ⟨ta, h1, rfl⟩ := Option.map_eq_some_iff.mp h
      exact plain (xTup (trA_ok hr c h1)) fun _ => rfl
    · cases h
  · rename_i es pos
    split at h
    · obtain ⟨ta, h1, rfl⟩ := Option.map_eq_some_iff.mp h
      exact plain (xLst (trA_ok hr c h1)) fun _ => rfl
    · cases h
  · rename_i a b pos
    split at h
    · rename_i lo hi st p2
      split at h
      · obtain ⟨ta, h0, h⟩ := Option.bind_eq_some_iff.mp h
        obtain ⟨tl, h1, h⟩ := Option.bind_eq_some_iff.mp h
        obtain ⟨th, h2, rfl⟩ := Option.map_eq_some_iff.mp h
        exact plain (xSl (hr w S X c a ta h0).1 (trP_ok hr c h1) (trP_ok hr c h2)) fun _ => rfl
      · split at h
        · obtain ⟨ta, h1, rfl⟩ := Option.map_eq_some_iff.mp h
          exact plain (xRev (hr w S X c a ta h1).1) fun _ => rfl
        · cases h
    · rename_i ns
      obtain ⟨ta, h1, h⟩ := Option.bind_eq_some_iff.mp h
      obtain ⟨tb, h2, rfl⟩ := Option.map_eq_some_iff.mp h
      refine plain (xIx ?_ (hr w S X c a ta h1).1 (hr w S X c b tb h2).1) fun _ => rfl
      intro o i
      cases b <;> first | rfl | exact (ns _ _ _ _ rfl).elim
  · exact plain (trCall_ok hr c h) fun _ => rfl
  · rename_i elt gens scope pos
    obtain ⟨tg, iter, ifs, ti, g, tc, te, rfl, rfl, a1, a2, a3, a4, a5, a6, a7⟩ := trComp_inv hr c h
    exact plain (xComp c.calm c.nd a1 a2 a3 a4 a5 a6 a7) fun _ => rfl
  · cases h
theorem trE_ok : ∀ n : Nat, SoundE G Φ k (trE G n)
  | 0 => fun _ _ _ _ _ _ h => by cases h
  | n + 1 => trE1_ok (trE_ok n)
end
end Wk
end T_WkT
section T_WkU
set_option maxHeartbeats 4000000
namespace Wk
open PySem PySem.Spec PyProof.Rows L2 RZ
/-! ### the translation is right: statements -/
structure Sok (G : Gx) (Φ : Fns) (k : Nat) (w : Wi) (S : Sx) (X : Cx) : Prop extends Cok G Φ k w S X where
  own : PassesOwn (model X.prog X.w) X.A X.env X.xe
  U : w.U = S.U
section
variable {G : Gx} {Φ : Fns} {k : Nat} {w : Wi} {S : Sx} {X : Cx} {rec : Tr}
theorem offU_ok (c : Sok G Φ k w S X) {i : Nat} (h : offU S i = true) : i ∉ w.U := by
  rw [c.U]
  unfold offU at h
  simpa using h
theorem slots_off (c : Sok G Φ k w S X) {g : Tg} (h : g.slots.all (offU S) = true) : ∀ i ∈ w.U, i ∉ g.slots := fun i hi hj => offU_ok c (List.all_eq_true.mp h i hj) hi
theorem sw_no {e : Expr} {tg : Option Expr} {l : Nat} {env : PySem.Env} (h : isComp e = false) : swapsWith e tg l env = pure false := by
  cases e <;> first | rfl | cases h
theorem sws_no {e tg : Expr} {l : Nat} {env : PySem.Env} (h : isComp e = false) : swapsWithSole [tg] e l env = pure false := sw_no h
theorem sws_name {x : Str} {p : Pos} {e : Expr} {env : PySem.Env} : swappedStores [.Name x p] e env = pure none := by
  cases e <;> rfl
theorem sws_sub {o i : Expr} {p : Pos} {e : Expr} {env : PySem.Env} : swappedStores [.Subscript o i p] e env = pure none := by
  cases e <;> rfl
theorem sws_tup {ts : List Expr} {kk : Nat} {p : Pos} {e : Expr} {env : PySem.Env} (h : isTup e = false) : swappedStores [.Tuple ts kk p] e env = pure none := by
  cases e <;> first | rfl | cases h
theorem nmsOf_eq (c : Cok G Φ k w S X) {line : Nat} : ∀ {ts : List Expr}, nmsOf S line ts = ts.filterMap fun
    | .Name id pos => if X.env.kindOf id == some .local && pos.line == line then some id else none
    | _ => none
  | [] => rfl
  | e :: es => by
    have ih := nmsOf_eq c (line := line) (ts := es)
    unfold nmsOf
    cases e with
    | Name id pos =>
      dsimp only
      rw [List.filterMap_cons]
      dsimp only
      rw [c.kind]
      by_cases h1 : S.kind id = some .local
      · rw [h1]
        by_cases h2 : (pos.line == line) = true
        · simp [h2, ih]
        · simp [h2, ih]
      · have : (S.kind id == some NameKind.local) = false := by simpa using h1
        rw [this]
        simp [h1, ih]
    | _ => dsimp only; rw [List.filterMap_cons]; exact ih
theorem noStars_any : ∀ {vs : List Expr}, (vs.any fun | .Starred .. => true | _ => false) = !noStars vs
  | [] => rfl
  | e :: es => by
    rw [List.any_cons, noStars_any (vs := es)]
    have q : noStars (e :: es) = (noStar e && noStars es) := rfl
    rw [q]
    cases e <;> simp [noStar]
theorem lineOf_eq {ts : List Expr} : (ts.head?.map (·.pos.line)).getD 0 = lineOf ts := by cases ts <;> rfl
theorem swP_ok (c : Cok G Φ k w S X) {ts vs : List Expr} {r : Option (List Str)} {k1 k2 : Nat} {p1 p2 : Pos} (h : swP S ts vs = some r) : swappedStores [.Tuple ts k1 p1] (.Tuple vs k2 p2) X.env = pure r := by
  unfold swP at h
  split at h
  · cases h
  · rename_i hk
    have hk : S.sc.kind = .function := by simpa using hk
    have bk : X.env.blockKind = .function := by
      unfold PySem.Env.blockKind
      rw [c.sc, hk]
      rfl
    unfold swappedStores
    dsimp only
    rw [bk]
    rw [nmsOf_eq c, ← lineOf_eq, ← noStars_any] at h
    split at h
    · rename_i q
      cases h
      have q2 : ((!(ts.length == 2 || ts.length == 3) || vs.length != ts.length || ScopeKind.function != ScopeKind.function)) = true := by
        rw [q]; rfl
      rw [if_pos q2]
    · rename_i q
      have q2 : ¬ ((!(ts.length == 2 || ts.length == 3) || vs.length != ts.length || ScopeKind.function != ScopeKind.function)) = true := by
        intro z
        apply q
        have e : (ScopeKind.function != ScopeKind.function) = false := by decide
        rw [e, Bool.or_false] at z
        exact z
      rw [if_neg q2]
      split at h
      · cases h
      · rename_i ns
        refine Eq.trans (if_neg ns) ?_
        split at h
        · rename_i z
          cases h
          exact if_pos z
        · rename_i z
          refine Eq.trans (if_neg z) ?_
          split at h
          · rename_i y
            cases h
            rw [if_pos y]
          · rename_i y
            rw [if_neg y]
            split at h
            · cases h
            · rename_i u
              cases h
              rw [if_neg u]
              rfl
theorem swP_names {ts vs : List Expr} {r : List Str} (h : swP S ts vs = some (some r)) : S.sc.kind = .function ∧ r = nmsOf S (lineOf ts) ts ∧ (nmsOf S (lineOf ts) ts).length = ts.length ∧ noStars vs = true := by
  unfold swP at h
  split at h
  · cases h
  · rename_i hk
    split at h
    · cases h
    · split at h
      · cases h
      · rename_i ns
        split at h
        · cases h
        · rename_i z
          split at h
          · cases h
          · split at h
            · cases h
            · cases h
              refine ⟨by simpa using hk, rfl, ?_, by simpa using ns⟩
              simp only [Bool.or_eq_true, not_or] at z
              simpa using z.1
theorem nmsOf_cons {x : Str} {p : Pos} {es : List Expr} {line : Nat} (h : (nmsOf S line (.Name x p :: es)).length = es.length + 1) : S.kind x = some .local ∧ nmsOf S line (.Name x p :: es) = x :: nmsOf S line es ∧ (nmsOf S line es).length = es.length := by
  have le : ∀ es : List Expr, (nmsOf S line es).length ≤ es.length := fun es => by
    induction es with
    | nil => exact Nat.le_refl _
    | cons e es ih =>
      unfold nmsOf
      cases e with
      | Name id pos =>
        dsimp only
        split
        · simpa using ih
        · exact Nat.le_succ_of_le ih
      | _ => exact Nat.le_succ_of_le ih
  have u : nmsOf S line (.Name x p :: es) = if decide (S.kind x = some .local) && p.line == line then x :: nmsOf S line es else nmsOf S line es := rfl
  rw [u] at h ⊢
  split at h
  · rename_i q
    rw [if_pos q]
    exact ⟨of_decide_eq_true (and2 q).1, rfl, by simpa using h⟩
  · have := le es
    omega
theorem trAsg_ok (hr : SoundE G Φ k rec) (c : Sok G Φ k w S X) {tg e : Expr} {t : T} {pos : Pos} (h : trAsg rec S tg e = some t) (hrec : ∀ elt gens scope epos t, rec S (.ListComp elt gens scope epos) = some t → ∃ r2, SoundE G Φ k r2 ∧ trComp G r2 S elt gens scope = some t) : PS X (.Assign [tg] e pos) (tS X.K w (ex Φ t)) := by
  unfold trAsg at h
  split at h
  · rename_i y py
    obtain ⟨i, h1, h⟩ := Option.bind_eq_some_iff.mp h
    obtain ⟨q1, q2, q3⟩ := c.st h1
    split at h
    · rename_i hu
      have hU := offU_ok c hu
      split at h
      · rename_i elt gens scope epos _
        split at h
        · rename_i hk
          obtain ⟨te, h2, rfl⟩ := Option.map_eq_some_iff.mp h
          have hk := of_decide_eq_true hk
          by_cases sw : swC S y py scope epos = true
          · obtain ⟨r2, hr2, h3⟩ := hrec _ _ _ _ _ h2
            obtain ⟨tg, iter, ifs, ti, g, tc, te, rfl, rfl, a1, a2, a3, a4, a5, a6, a7⟩ := trComp_inv hr2 c.toCok h3
            unfold swC at sw
            obtain ⟨sw, s3⟩ := and2 sw
            obtain ⟨s1, s2⟩ := and2 sw
            have s1 := of_decide_eq_true s1
            have hyl : X.env.scope.names.lookup y = some .local := by rw [c.sc]; exact s1
            exact sSetLc hU c.calm c.nd q1 hyl (sw_true (by rw [c.sc]; exact hk) hyl s2 (by simpa using s3)) a1 a2 a3 a4 a5 a6 a7
          · refine sSet hU c.nd q1 q2 ?_ q3 (hr w S X c.toCok _ te h2).1
            have bk : X.env.blockKind = .function := by
              unfold PySem.Env.blockKind
              rw [c.sc, hk]
              rfl
            unfold swapsWith
            simp only [bk, c.kind]
            have sw : swC S y py scope epos = false := by simpa using sw
            unfold swC at sw
            have e1 : ((ScopeKind.function == ScopeKind.function) && S.kind y == some NameKind.local && py.line == epos.line && !(scope.names.any fun (n, k) => n == y && (k == .local || k == .cell))) = false := by
              have e0 : (ScopeKind.function == ScopeKind.function) = true := by decide
              rw [e0, Bool.true_and]
              by_cases z : S.kind y = some .local
              · rw [z] at sw ⊢
                simpa using sw
              · have : (S.kind y == some NameKind.local) = false := by simpa using z
                rw [this]
                rfl
            show (do return _ : Sem Bool) = _
            exact congrArg pure e1
        · cases h
      · split at h
        · cases h
        · rename_i hc
          obtain ⟨te, h2, rfl⟩ := Option.map_eq_some_iff.mp h
          exact sSet hU c.nd q1 q2 (sw_no (by simpa using hc)) q3 (hr w S X c.toCok e te h2).1
    · cases h
  · rename_i ts kt pt
    split at h
    · rename_i ns
      split at h
      · rename_i vs k2 p2
        obtain ⟨r, h1, h⟩ := Option.bind_eq_some_iff.mp h
        have hsw := swP_ok c.toCok (k1 := kt) (k2 := k2) (p1 := pt) (p2 := p2) h1
        split at h
        · obtain ⟨g, h2, h⟩ := Option.bind_eq_some_iff.mp h
          split at h
          · rename_i hu
            obtain ⟨te, h3, rfl⟩ := Option.map_eq_some_iff.mp h
            exact sSetT (slots_off c hu) (hr w S X c.toCok _ te h3).1 (trG_ok c.toCok h2) (sws_no rfl) hsw rfl
          · cases h
        · rename_i names
          obtain ⟨hk, e0, hl, nsv⟩ := swP_names h1
          split at h
          · rename_i x px y py a b _
            obtain ⟨i, i1, h⟩ := Option.bind_eq_some_iff.mp h
            obtain ⟨j, j1, h⟩ := Option.bind_eq_some_iff.mp h
            split at h
            · rename_i hu
              obtain ⟨hu, hij⟩ := and2 hu
              obtain ⟨hi, hj⟩ := and2 hu
              have hij := of_decide_eq_true hij
              obtain ⟨ta, h3, h⟩ := Option.bind_eq_some_iff.mp h
              obtain ⟨tb, h4, rfl⟩ := Option.map_eq_some_iff.mp h
              obtain ⟨l1, l2, l3⟩ := nmsOf_cons hl
              obtain ⟨l4, l5, l6⟩ := nmsOf_cons l3
              have ne : names = [x, y] := by rw [e0, l2, l5]; rfl
              subst ne
              obtain ⟨n1, n2⟩ := noStars_cons nsv
              obtain ⟨n3, _⟩ := noStars_cons n2
              exact sPar (offU_ok c hi) (offU_ok c hj) c.calm c.nd (by rw [c.N]; exact slotOf_at i1) (by rw [c.N]; exact slotOf_at j1) hij (by rw [c.sc]; exact l1) (by rw [c.sc]; exact l4) (starEach_cons n1) (starEach_cons n3) (hr w S X c.toCok a ta h3).1 (hr w S X c.toCok b tb h4).1 hsw (sws_no rfl)
            · cases h
          · rename_i x px y py z pz a b cc _
            obtain ⟨i, i1, h⟩ := Option.bind_eq_some_iff.mp h
            obtain ⟨j, j1, h⟩ := Option.bind_eq_some_iff.mp h
            obtain ⟨m, m1, h⟩ := Option.bind_eq_some_iff.mp h
            split at h
            · rename_i hu
              obtain ⟨hu, hjk⟩ := and2 hu
              obtain ⟨hu, hik⟩ := and2 hu
              obtain ⟨hu, hij⟩ := and2 hu
              obtain ⟨hu, hm⟩ := and2 hu
              obtain ⟨hi, hj⟩ := and2 hu
              have hij := of_decide_eq_true hij
              have hik := of_decide_eq_true hik
              have hjk := of_decide_eq_true hjk
              obtain ⟨ta, h3, h⟩ := Option.bind_eq_some_iff.mp h
              obtain ⟨tb, h4, h⟩ := Option.bind_eq_some_iff.mp h
              obtain ⟨tc, h5, rfl⟩ := Option.map_eq_some_iff.mp h
              obtain ⟨l1, l2, l3⟩ := nmsOf_cons hl
              obtain ⟨l4, l5, l6⟩ := nmsOf_cons l3
              obtain ⟨l7, l8, l9⟩ := nmsOf_cons l6
              have ne : names = [x, y, z] := by rw [e0, l2, l5, l8]; rfl
              subst ne
              obtain ⟨n1, n2⟩ := noStars_cons nsv
              obtain ⟨n3, n4⟩ := noStars_cons n2
              obtain ⟨n5, _⟩ := noStars_cons n4
              exact sPar3 (offU_ok c hi) (offU_ok c hj) (offU_ok c hm) c.calm c.nd (by rw [c.N]; exact slotOf_at i1) (by rw [c.N]; exact slotOf_at j1) (by rw [c.N]; exact slotOf_at m1) hij hik hjk (by rw [c.sc]; exact l1) (by rw [c.sc]; exact l4) (by rw [c.sc]; exact l7) (starEach_cons n1) (starEach_cons n3) (starEach_cons n5) (hr w S X c.toCok a ta h3).1 (hr w S X c.toCok b tb h4).1 (hr w S X c.toCok cc tc h5).1 hsw (sws_no rfl)
            · cases h
          · cases h
      · rename_i nt
        split at h
        · cases h
        · rename_i hc
          obtain ⟨g, h2, h⟩ := Option.bind_eq_some_iff.mp h
          split at h
          · rename_i hu
            obtain ⟨te, h3, rfl⟩ := Option.map_eq_some_iff.mp h
            refine sSetT (slots_off c hu) (hr w S X c.toCok _ te h3).1 (trG_ok c.toCok h2) (sws_no (by simpa using hc)) (sws_tup ?_) rfl
            cases e <;> first | rfl | exact (nt _ _ _ rfl).elim
          · cases h
    · cases h
  · rename_i o kk p3
    split at h
    · rename_i x p
      split at h
      · cases h
      · rename_i hc
        have hc : isComp e = false := by simpa using hc
        split at h
        · cases h
        · rename_i nsl
          obtain ⟨i, h1, h⟩ := Option.bind_eq_some_iff.mp h
          obtain ⟨te, h2, h⟩ := Option.bind_eq_some_iff.mp h
          obtain ⟨tk, h3, rfl⟩ := Option.map_eq_some_iff.mp h
          obtain ⟨v1, v2, v3, v4⟩ := c.ix h1
          refine sSetIx v1 v2 v3 v4 (hr w S X c.toCok kk tk h3).1 (hr w S X c.toCok e te h2).1 (fun v => ?_) (sws_no hc) sws_sub rfl
          cases kk <;> first | rfl | exact (nsl _ _ _ _ rfl).elim
    · cases h
  · cases h
theorem trS1_ok {recB : List Stmt → Option T} (hr : SoundE G Φ k rec) (c : Sok G Φ k w S X) (hB : ∀ (b : List Stmt) (t : T), recB b = some t → PSs X b (tS X.K w (ex Φ t))) (hrec : ∀ elt gens scope epos t, rec S (.ListComp elt gens scope epos) = some t → ∃ r2, SoundE G Φ k r2 ∧ trComp G r2 S elt gens scope = some t)
    {st : Stmt} {t : T} (h : trS1 G rec S recB st = some t) : PS X st (tS X.K w (ex Φ t)) := by
  unfold trS1 at h
  split at h
  · cases h; exact sPass
  · cases h; exact sBreak
  · cases h; exact sCont
  · rename_i e pos
    split at h
    · cases h
    · rename_i hc
      obtain ⟨te, h1, rfl⟩ := Option.map_eq_some_iff.mp h
      exact sExpr (sw_no (by simpa using hc)) (hr w S X c.toCok e te h1).1
  · split at h
    · exact trAsg_ok hr c h hrec
    · cases h
  · split at h
    · cases h; exact sRetN
    · rename_i e
      obtain ⟨te, h1, rfl⟩ := Option.map_eq_some_iff.mp h
      exact sRet (hr w S X c.toCok e te h1).1
  · rename_i cc a b pos
    obtain ⟨tc, h1, h⟩ := Option.bind_eq_some_iff.mp h
    obtain ⟨ta, h2, h⟩ := Option.bind_eq_some_iff.mp h
    obtain ⟨tb, h3, rfl⟩ := Option.map_eq_some_iff.mp h
    exact sIf (hr w S X c.toCok cc tc h1).2 (hB a ta h2) (hB b tb h3)
  · rename_i cc b o pos
    split at h
    · obtain ⟨tc, h1, h⟩ := Option.bind_eq_some_iff.mp h
      obtain ⟨tb, h2, rfl⟩ := Option.map_eq_some_iff.mp h
      exact sWhl c.own (hr w S X c.toCok cc tc h1).2 (hB b tb h2)
    · cases h
  · rename_i tg it b o pos
    split at h
    · split at h
      · obtain ⟨ti, h1, h⟩ := Option.bind_eq_some_iff.mp h
        obtain ⟨g, h2, h⟩ := Option.bind_eq_some_iff.mp h
        split at h
        · rename_i hu
          obtain ⟨tb, h3, rfl⟩ := Option.map_eq_some_iff.mp h
          obtain ⟨i1, i2⟩ := trI_ok hr c.toCok h1
          exact sFor (slots_off c hu) c.own c.calm (by rw [trG_tp h2]; exact i1) (trG_ok c.toCok h2) (hB b tb h3) i2
        · cases h
      · cases h
    · cases h
  · split at h
    · rename_i x p pos
      split at h
      · rename_i hg
        obtain ⟨nm, h1, rfl⟩ := Option.map_eq_some_iff.mp h
        obtain ⟨g1, g2, _⟩ := c.gl hg
        obtain ⟨C, m1, m2, m3⟩ := c.g.exs _ (findS_ok h1)
        exact sRaise c.calm c.tk m2 m1 m3 g1 g2
      · cases h
    · cases h
  · cases h
theorem trL_ok {f : Stmt → Option T} (hf : ∀ (st : Stmt) (t : T), f st = some t → PS X st (tS X.K w (ex Φ t))) : ∀ {b : List Stmt} {t : T}, trL f b = some t → PSs X b (tS X.K w (ex Φ t))
  | [], t, h => by
    cases h
    exact sNil
  | st :: r, t, h => by
    unfold trL at h
    obtain ⟨t1, h1, h⟩ := Option.bind_eq_some_iff.mp h
    obtain ⟨t2, h2, rfl⟩ := Option.map_eq_some_iff.mp h
    exact sCons (hf st t1 h1) (trL_ok hf h2)
theorem trE_comp {m : Nat} : ∀ elt gens scope epos t, trE G m S (.ListComp elt gens scope epos) = some t → ∃ r2, SoundE G Φ k r2 ∧ trComp G r2 S elt gens scope = some t := fun elt gens scope epos t h => by
  cases m with
  | zero => cases h
  | succ m => exact ⟨trE G m, trE_ok m, h⟩
theorem trS_ok {m : Nat} (c : Sok G Φ k w S X) : ∀ {n : Nat} {b : List Stmt} {t : T}, trS G m S n b = some t → PSs X b (tS X.K w (ex Φ t))
  | 0, _, _, h => by cases h
  | n + 1, b, t, h => trL_ok (fun st t h => trS1_ok (trE_ok m) c (fun b t h => trS_ok c h) trE_comp h) h
end
end Wk
end T_WkU
section T_WkV
set_option maxHeartbeats 4000000
namespace Wk
open PySem PySem.Spec PyProof.Rows L2 RZ
/-! ### the text's defs, one on another -/
/-- a def: its key, its slots, its parameters, those never stored to -/
structure Df where
  key : String
  N : List Str
  ps : List Str
  kp : List Nat
def Df.sx (d : Df) (G : Gx) : Sx := ⟨d.N, defScope (G.st d.key), fun _ => true, d.kp⟩
def Df.tr (d : Df) (G : Gx) : Option T := trS G 24 (d.sx G) 14 (defBody (G.st d.key))
def Df.body (d : Df) (G : Gx) : T := (d.tr G).getD .skip
noncomputable def Df.val (d : Df) (G : Gx) (Φ : Fns) : FnV := fnV Φ d.ps.length (d.N.length - d.ps.length) d.kp (d.body G)
/-- the defs' worth: the last one first, each on those behind it -/
noncomputable def lay (G : Gx) : List Df → Fns
  | [], _ => fun _ => .stuck
  | d :: ds, s => if s = d.key then d.val G (lay G ds) else lay G ds s
def scC (N P : List Str) (sc : Scope) : Bool :=
  decide (sc.kind = .function) && !sc.isCoroutine && !sc.isGenerator && decide N.Nodup && decide (N.take P.length = P) && P.all (fun x => decide (sc.names.lookup x = some .local) || decide (sc.names.lookup x = some .cell)) && sc.names.all (fun y => !decide (y.2 = .free))
theorem fnScope_by {N P : List Str} {sc : Scope} (h : scC N P sc = true) : FnScope N P sc := by
  unfold scC at h
  simp only [Bool.and_eq_true, Bool.not_eq_true', decide_eq_true_eq, List.all_eq_true, Bool.or_eq_true, decide_eq_false_iff_not] at h
  obtain ⟨⟨⟨⟨⟨⟨h1, h2⟩, h3⟩, h4⟩, h5⟩, h6⟩, h7⟩ := h
  exact ⟨h1, h2, h3, h4, h5, h6, h7⟩
def Df.ok (d : Df) (G : Gx) : Bool := scC d.N d.ps (defScope (G.st d.key)) && (d.tr G).isSome && G.fns.all fun q => !decide (q.2.1 = d.key) || decide (q.2.2 = d.ps)
section
variable {G : Gx} {Φ : Fns} {k : Nat} {cls : Exn → Option Value} {P : Program} {wd : World} {K : PySem.W.Frag} {mg : Str → Option Value} {base : Heap}
theorem stuck_ok {f : Addr} {fd : FuncData} {ps : List Str} : FnOk P wd K mg base (L2.CX P wd) k f fd ps (spF K cls fun _ => .stuck) :=
  ⟨fun vs H Q E ⟨_, _, _, h⟩ => h.elim, fun A outer s H args us vs Q E _ _ _ _ ⟨_, _, _, h⟩ => h.elim⟩
theorem def_ok {d : Df} {x : Str} {f : Addr} {fd : FuncData} (g : Gok G Φ k cls P wd K mg base) (F : L2.Fun K x x (G.st d.key) f fd) (h : d.ok G = true) :
    FnOk P wd K mg base (L2.CX P wd) (k + 1) f fd d.ps (spF K cls (d.val G Φ)) := by
  unfold Df.ok at h
  obtain ⟨h, h3⟩ := and2 h
  obtain ⟨h1, h2⟩ := and2 h
  have S := fnScope_by h1
  obtain ⟨b, hb⟩ := Option.isSome_iff_exists.mp h2
  have eb : d.body G = b := by unfold Df.body; rw [hb]; rfl
  refine okFn (cls := cls) F S fun cdv A outer s H E hr => ?_
  refine trS_ok (G := G) (k := k) (S := d.sx G) (m := 24) (n := 14) ?_ (by rw [eb]; exact hb)
  exact {
    g := g
    N := rfl
    sc := rfl
    fn := rfl
    nd := S.nd
    calm := rfl
    room := hr
    tk := takes_of rfl rfl rfl rfl
    own := passes_of rfl
    U := rfl }
theorem layer {ds : List Df} {d : Df} (g : Gok G (lay G ds) k cls P wd K mg base) (h : d.ok G = true) : Gok G (lay G (d :: ds)) (k + 1) cls P wd K mg base where
  blt := g.blt
  con := g.con
  exs := g.exs
  fns := fun q hq => by
    obtain ⟨f, fd, F, ok⟩ := g.fns q hq
    refine ⟨f, fd, F, ?_⟩
    unfold lay
    by_cases e : q.2.1 = d.key
    · rw [if_pos e]
      have h3 : G.fns.all (fun q => !decide (q.2.1 = d.key) || decide (q.2.2 = d.ps)) = true := by
        unfold Df.ok at h
        exact (and2 h).2
      have e2 := List.all_eq_true.mp h3 q hq
      simp only [Bool.or_eq_true, Bool.not_eq_true', decide_eq_true_eq, decide_eq_false_iff_not] at e2
      have e3 : q.2.2 = d.ps := e2.resolve_left fun z => z e
      rw [e3]
      have Ff := F.fn
      rw [e] at Ff
      exact def_ok g Ff h
    · rw [if_neg e]
      exact ok.mono (Nat.le_succ k)
theorem layers (g : Gok G (lay G []) 0 cls P wd K mg base) : ∀ {ds : List Df}, (ds.all fun d => d.ok G) = true → Gok G (lay G ds) ds.length cls P wd K mg base
  | [], _ => g
  | d :: ds, h => by
    rw [List.all_cons] at h
    obtain ⟨h1, h2⟩ := and2 h
    exact layer (layers g h2) h1
/-- what the text's top has written -/
structure Top (G : Gx) (cls : Exn → Option Value) (K : PySem.W.Frag) (mg : Str → Option Value) : Prop where
  blt : ∀ x ∈ G.blt, mg x = none
  fns : ∀ q ∈ G.fns, ∃ f fd, Fst K mg (G.st q.2.1) q.1 q.2.2 f fd
  con : ∀ q ∈ G.con, ∃ u v, mg q.1 = some u ∧ RelV v u ∧ ∀ Z, Rv K Z v q.2
  exs : ∀ q ∈ G.exs, ∃ C, mg q.1 = some (.ref C) ∧ OwnX K C ∧ cls q.2 = some (.ref C)
theorem Top.gok (t : Top G cls K mg) : Gok G (lay G []) 0 cls P wd K mg base where
  blt := t.blt
  con := t.con
  exs := t.exs
  fns := fun q hq => let ⟨f, fd, F⟩ := t.fns q hq; ⟨f, fd, F, stuck_ok⟩
end
/-- the law's worth at a script -/
def Keeps (F : FnV) (n : Nat) : Prop := ∀ ns : List Int, ns.length ≤ n → ∃ ρ, F [.scr ns] = .ok (.fr (.bool true)) ρ
theorem law_sp {K : PySem.W.Frag} {cls : Exn → Option Value} {F : FnV} {n : Nat} (h : Keeps F n) {H : Hp} {a : Addr} {ns : List Int} (hl : ns.length ≤ n) (hS : SqL K H a (ns.map V.int)) : spF K cls F [.ref a] H (fun v _ => v = .bl true) fun _ _ _ => False := by
  obtain ⟨ρ, e⟩ := h ns hl
  refine ⟨H, [.scr ns], ⟨rfl, .refl _, fun i d h => ?_, fun i d h => ?_, fun i ms h => ?_, fun i j ds es a h => ?_⟩, ?_⟩
  · cases i with
    | zero => cases h
    | succ i => simp at h
  · cases i with
    | zero => cases h
    | succ i => simp at h
  · cases i with
    | zero => cases h; exact ⟨a, rfl, hS⟩
    | succ i => simp at h
  · cases i with
    | zero => cases h
    | succ i => simp at h
  · rw [e]
    intro Z' H' _ _ v hv
    cases hv
    rfl
/-- the own exception classes, by the written part -/
def clsOf (K : PySem.W.Frag) : Exn → Option Value := fun s => match PySem.W.nsIn K mainGlobals (Str.ofString s) with
  | some v => v
  | none => none
theorem clsOf_ok {K : PySem.W.Frag} {s : String} {v : Value} (h : PySem.W.nsIn K mainGlobals (Str.ofString s) = some (some v)) : clsOf K s = some v := by
  unfold clsOf
  rw [h]
theorem cx_none {P : Program} {wd : World} {outer : List PySem.Env} {H : Hp} {s : Shared} {e : Value} {s' : Shared} (h : L2.CX P wd outer H s (fun _ _ _ => False) e s') : False := by
  unfold L2.CX at h
  obtain ⟨_, _, _, _, _, _, _, _, _, _, _, _, h⟩ := h
  exact h
theorem wk_walk {l : PySem.W.OpenLaw} {n k : Nat} {q : Program} {loose : List Str} {XP : (Str → Option Value) → Heap → Prop} {YP : World → Heap → Prop} {d : DefRec} {K : Params → PySem.W.Frag} {G : Gx} {ds : List Df} {key : String}
    (hn : l.most = some n) (hn2 : n ≤ sizeLine) (hdf : d.params.defaults = []) (hr : Room k callerA) (hY : ∀ (w : World) (h : Heap), YP w h → (K w.params).In h)
    (hds : (ds.all fun d => d.ok G) = true) (hlen : ds.length = k) (hq : (d.name, key, [("script" : Str)]) ∈ G.fns) (keeps : Keeps (lay G ds key) n)
    (F : ∀ (w : World) (mg : Str → Option Value) (h : Heap), (K w.params).In h → h.Ns mainGlobals mg → Top G (clsOf (K w.params)) (K w.params) mg) : PySem.W.WalkO q loose XP YP l.row.toRowW d [] (fun f vs => PySem.call f vs) := by
  refine walk_of (l := l) (k := k) (x := ("script" : Str)) (CX := fun w => L2.CX l.prog w) (sp := fun w => spF (K w.params) (clsOf (K w.params)) (lay G ds key)) hn hn2 hdf hr hY (fun w mg fa h X Y hfa => ?_) (fun w H a ns hl _ hS => law_sp keeps hl hS) fun w H s e s' h => cx_none h
  subst hlen
  obtain ⟨f, fd, F1⟩ := (F w mg h X Y).fns _ hq
  have e := F1.m
  rw [hfa] at e
  cases e
  refine ⟨fd, fun s u => F1.b0 s [u] rfl, fun base _ _ => ?_⟩
  obtain ⟨f', fd', F', ok⟩ := (layers (P := l.prog) (wd := w) (base := base) (F w mg h X Y).gok hds).fns _ hq
  have e := F'.m
  rw [hfa] at e
  cases e
  obtain ⟨_, _, _, _, _, _, _, _, _, z1, z2, _⟩ := F1.fn.ex
  obtain ⟨_, _, _, _, _, _, _, _, _, y1, y2, _⟩ := F'.fn.ex
  rw [y2] at z2
  cases z2
  exact ok
end Wk
end T_WkV
section T_Sim
set_option maxHeartbeats 1000000
/-! Sim: how a term's meaning is worked out by simp, from the left, one thing at a time. -/
namespace Wk
open PySem
theorem obind_congr {α β : Type} {o o' : Out α} {f : α → Env → Out β} (h : o = o') : o.bind f = o'.bind f := by rw [h]
/-! slots -/
def evVar (s : Option Sl) (i : Nat) (ρ : Env) : Out Vl := match s with
  | some (.fr d) => .ok (.fr d) ρ
  | some (.bx _) => .ok (.bx i) ρ
  | some (.scr _) => .ok (.bx i) ρ
  | _ => .stuck
@[simp] theorem evVar_fr {d : D} {i : Nat} {ρ : Env} : evVar (some (.fr d)) i ρ = .ok (.fr d) ρ := id rfl
@[simp] theorem evVar_bx {d : List D} {i : Nat} {ρ : Env} : evVar (some (.bx d)) i ρ = .ok (.bx i) ρ := id rfl
@[simp] theorem evVar_scr {d : List Int} {i : Nat} {ρ : Env} : evVar (some (.scr d)) i ρ = .ok (.bx i) ρ := id rfl
def slData : Option Sl → Option D
  | some (.bx ds) => some (.list ds)
  | some (.fr d) => some d
  | _ => none
@[simp] theorem slData_fr {d : D} : slData (some (.fr d)) = some d := id rfl
@[simp] theorem slData_bx {d : List D} : slData (some (.bx d)) = some (.list d) := id rfl
def slDataR : Option Sl → Option D
  | some (.bx ds) => some (.list ds)
  | some (.fr d) => some d
  | some (.scr ns) => some (.list (ns.map .int))
  | _ => none
@[simp] theorem slDataR_fr {d : D} : slDataR (some (.fr d)) = some d := id rfl
@[simp] theorem slDataR_bx {d : List D} : slDataR (some (.bx d)) = some (.list d) := id rfl
@[simp] theorem slDataR_scr {ns : List Int} : slDataR (some (.scr ns)) = some (.list (ns.map .int)) := id rfl
@[simp] theorem data_fr {d : D} {ρ : Env} : (Vl.fr d).data ρ = some d := id rfl
@[simp] theorem data_ow {d : List D} {ρ : Env} : (Vl.ow d).data ρ = some (.list d) := id rfl
@[simp] theorem data_bx {i : Nat} {ρ : Env} : (Vl.bx i).data ρ = slData ρ[i]? := by
  first
    | rfl
    | (unfold Vl.data slData; dsimp only; rcases ρ[i]? with _ | (_ | _ | _ | _) <;> rfl)
@[simp] theorem dataR_fr {d : D} {ρ : Env} : (Vl.fr d).dataR ρ = some d := id rfl
@[simp] theorem dataR_ow {d : List D} {ρ : Env} : (Vl.ow d).dataR ρ = some (.list d) := id rfl
@[simp] theorem dataR_bx {i : Nat} {ρ : Env} : (Vl.bx i).dataR ρ = slDataR ρ[i]? := by
  first
    | rfl
    | (unfold Vl.dataR slDataR; dsimp only; rcases ρ[i]? with _ | (_ | _ | _ | _) <;> rfl)
@[simp] theorem lay_fr {d : D} : (Vl.fr d).lay = .fr d := id rfl
@[simp] theorem lay_bx {i : Nat} : (Vl.bx i).lay = .bx i := id rfl
@[simp] theorem lay_ow {d : List D} : (Vl.ow d).lay = .fr (.list d) := id rfl
def fzSl (s : Option Sl) (i : Nat) (ρ : Env) : Out D := match s with
  | some (.bx ds) => .ok (.list ds) (ρ.set i (.fr (.list ds)))
  | some (.fr d) => .ok d ρ
  | _ => .stuck
@[simp] theorem fzSl_fr {d : D} {i : Nat} {ρ : Env} : fzSl (some (.fr d)) i ρ = .ok d ρ := id rfl
@[simp] theorem fzSl_bx {d : List D} {i : Nat} {ρ : Env} : fzSl (some (.bx d)) i ρ = .ok (.list d) (ρ.set i (.fr (.list d))) := id rfl
@[simp] theorem fz_fr {d : D} {ρ : Env} : (Vl.fr d).fz ρ = .ok d ρ := id rfl
@[simp] theorem fz_ow {d : List D} {ρ : Env} : (Vl.ow d).fz ρ = .ok (.list d) ρ := id rfl
@[simp] theorem fz_bx {i : Nat} {ρ : Env} : (Vl.bx i).fz ρ = fzSl ρ[i]? i ρ := by
  unfold fzSl
  show (match ρ[i]? with
    | some (.bx ds) => Out.ok (PyData.list ds) (ρ.set i (.fr (.list ds)))
    | some (.fr d) => .ok d ρ
    | _ => .stuck) = _
  cases ρ[i]? with
  | none => rfl
  | some s => cases s <;> rfl
/-! truth -/
@[simp] theorem truth_none : truth .none = some false := id rfl
@[simp] theorem truth_bool {b : Bool} : truth (.bool b) = some b := id rfl
@[simp] theorem truth_int {i : Int} : truth (.int i) = some (i != 0) := id rfl
@[simp] theorem truth_list {l : List D} : truth (.list l) = some (!l.isEmpty) := id rfl
@[simp] theorem truth_tup {l : List D} : truth (.tuple l) = some (!l.isEmpty) := id rfl
def truO (o : Option Bool) (ρ : Env) : Out Bool := match o with
  | some b => .ok b ρ
  | none => .stuck
@[simp] theorem truO_some {b : Bool} {ρ : Env} : truO (some b) ρ = .ok b ρ := id rfl
@[simp] theorem tru_eq {v : Vl} {ρ : Env} : tru v ρ = truO ((v.lay.data ρ).bind truth) ρ := by unfold tru truO; cases (v.lay.data ρ).bind truth <;> rfl
/-! operations -/
def twoO (f : D → D → Option Vl) (a b : Option D) (ρ : Env) : Out Vl := match a, b with
  | some x, some y => Out.ofO (f x y) ρ
  | _, _ => .stuck
@[simp] theorem twoO_some {f : D → D → Option Vl} {x y : D} {ρ : Env} : twoO f (some x) (some y) ρ = Out.ofO (f x y) ρ := id rfl
@[simp] theorem two_eq {f : D → D → Option Vl} {v u : Vl} {ρ : Env} : two f v u ρ = twoO f (v.lay.data ρ) (u.lay.data ρ) ρ := by
  unfold two twoO
  cases v.lay.data ρ <;> cases u.lay.data ρ <;> rfl
@[simp] theorem add_int {i j : Int} : binD .add (.int i) (.int j) = some (.fr (.int (i + j))) := id rfl
@[simp] theorem sub_int {i j : Int} : binD .sub (.int i) (.int j) = some (.fr (.int (i - j))) := id rfl
theorem add_tup' {a b : List D} : binD .add (.tuple a) (.tuple b) = if a.length + b.length ≤ LIM then some (.fr (.tuple (a ++ b))) else none := rfl
theorem add_tup {a b : List D} (h : a.length + b.length ≤ LIM) : binD .add (.tuple a) (.tuple b) = some (.fr (.tuple (a ++ b))) := if_pos h
theorem add_lst {a b : List D} (h : a.length + b.length ≤ LIM) : binD .add (.list a) (.list b) = some (.ow (a ++ b)) := if_pos h
theorem mul_int {i j : Int} (h : (small i || small j) = true) : binD .mul (.int i) (.int j) = some (.fr (.int (i * j))) := if_pos h
theorem mul_tup {a : List D} {k : Int} (h : a.length ≤ 1000 ∧ -1000 ≤ k ∧ k ≤ 1000) : binD .mul (.tuple a) (.int k) = some (.fr (.tuple (List.replicate k.toNat a).flatten)) := if_pos h
theorem mod_int {i j : Int} (h : 0 < j) : binD .mod (.int i) (.int j) = some (.fr (.int (i % j))) := if_pos h
theorem fdiv_int {i j : Int} (h : 0 < j ∧ j < 1073741824) : binD .fdiv (.int i) (.int j) = some (.fr (.int (i / j))) := if_pos h
theorem pow_int {i j : Int} (h : 0 ≤ j ∧ j ≤ 1000000 ∧ i.natAbs < 2 ^ 64) : binD .pow (.int i) (.int j) = some (.fr (.int (i ^ j.toNat))) := if_pos h
@[simp] theorem cmpV_eq {op : Co} {a b : D} : cmpV op a b = (cmpD op a b).map fun b => .fr (.bool b) := id rfl
@[simp] theorem lt_int {i j : Int} : cmpD .lt (.int i) (.int j) = some (decide (i < j)) := id rfl
@[simp] theorem le_int {i j : Int} : cmpD .le (.int i) (.int j) = some (decide (i ≤ j)) := id rfl
@[simp] theorem gt_int {i j : Int} : cmpD .gt (.int i) (.int j) = some (decide (j < i)) := id rfl
@[simp] theorem ge_int {i j : Int} : cmpD .ge (.int i) (.int j) = some (decide (j ≤ i)) := id rfl
@[simp] theorem isN_none {a : D} : cmpD .isN a .none = some (isNone a) := id rfl
@[simp] theorem notN_none {a : D} : cmpD .notN a .none = some (!isNone a) := id rfl
theorem eq_D {a b : D} (h : shp a = true ∧ shp b = true) : cmpD .eq a b = some (PyData.eqv a b) := if_pos h
theorem ne_D {a b : D} (h : shp a = true ∧ shp b = true) : cmpD .ne a b = some (!PyData.eqv a b) := if_pos h
def negO (d : Option D) (ρ : Env) : Out Vl := match d with
  | some (.int i) => .ok (.fr (.int (-i))) ρ
  | _ => .stuck
@[simp] theorem negO_int {i : Int} {ρ : Env} : negO (some (.int i)) ρ = .ok (.fr (.int (-i))) ρ := id rfl
@[simp] theorem negV_eq {v : Vl} {ρ : Env} : negV v ρ = negO (v.lay.data ρ) ρ := by
  unfold negV negO
  cases v.lay.data ρ with
  | none => rfl
  | some d => cases d <;> rfl
def intO (d : Option D) (ρ : Env) : Out (Option Int) := match d with
  | some (.int i) => .ok (some i) ρ
  | _ => .stuck
@[simp] theorem intO_int {i : Int} {ρ : Env} : intO (some (.int i)) ρ = .ok (some i) ρ := id rfl
@[simp] theorem intV_eq {v : Vl} {ρ : Env} : intV v ρ = intO (v.lay.data ρ) ρ := by
  unfold intV intO
  cases v.lay.data ρ with
  | none => rfl
  | some d => cases d <;> rfl
def isiO (ks : List Ty) (d : Option D) (ρ : Env) : Out Vl := match d with
  | some d => if notDict d then .ok (.fr (.bool (ks.any fun k => isTy k d))) ρ else .stuck
  | none => .stuck
@[simp] theorem isiO_some {ks : List Ty} {d : D} {ρ : Env} : isiO ks (some d) ρ = if notDict d then .ok (.fr (.bool (ks.any fun k => isTy k d))) ρ else .stuck := id rfl
@[simp] theorem isiV_eq {ks : List Ty} {v : Vl} {ρ : Env} : isiV ks v ρ = isiO ks (v.lay.data ρ) ρ := by
  unfold isiV isiO
  cases v.lay.data ρ <;> rfl
def slO (d : Option D) (l h : Option Int) (ρ : Env) : Out Vl := match d with
  | some x => Out.ofO (slD x l h) ρ
  | none => .stuck
@[simp] theorem slO_some {d : D} {l h : Option Int} {ρ : Env} : slO (some d) l h ρ = Out.ofO (slD d l h) ρ := id rfl
@[simp] theorem slV_eq {v : Vl} {l h : Option Int} {ρ : Env} : slV v l h ρ = slO (v.lay.dataR ρ) l h ρ := by
  unfold slV slO
  cases v.lay.dataR ρ <;> rfl
@[simp] theorem sl_lst {xs : List D} {l h : Option Int} : slD (.list xs) l h = some (.ow (cutL xs l h)) := id rfl
@[simp] theorem sl_tup {xs : List D} {l h : Option Int} : slD (.tuple xs) l h = some (.fr (.tuple (cutL xs l h))) := id rfl
def biO (f : Bf) (ds : Option (List D)) (ρ : Env) : Out Vl := match ds with
  | some ds => Out.ofO (biD f ds) ρ
  | none => .stuck
@[simp] theorem biO_some {f : Bf} {ds : List D} {ρ : Env} : biO f (some ds) ρ = Out.ofO (biD f ds) ρ := id rfl
@[simp] theorem biV_eq {f : Bf} {vs : List Vl} {ρ : Env} : biV f vs ρ = biO f (datas ρ vs) ρ := by
  unfold biV biO
  cases datas ρ vs <;> rfl
@[simp] theorem datas_nil {ρ : Env} : datas ρ [] = some [] := id rfl
@[simp] theorem datas_cons {ρ : Env} {v : Vl} {vs : List Vl} : datas ρ (v :: vs) = (v.data ρ).bind fun d => (datas ρ vs).map (d :: ·) := by
  show (match v.data ρ, datas ρ vs with
    | some d, some r => some (d :: r)
    | _, _ => none) = _
  cases v.data ρ <;> cases datas ρ vs <;> rfl
@[simp] theorem len_lst {xs : List D} : biD .len [.list xs] = some (.fr (.int xs.length)) := id rfl
@[simp] theorem len_tup {xs : List D} : biD .len [.tuple xs] = some (.fr (.int xs.length)) := id rfl
@[simp] theorem abs_int {i : Int} : biD .abs [.int i] = some (.fr (.int (if i < 0 then -i else i))) := id rfl
@[simp] theorem min_int {i j : Int} : biD .min2 [.int i, .int j] = some (.fr (.int (if j < i then j else i))) := id rfl
@[simp] theorem max_int {i j : Int} : biD .max2 [.int i, .int j] = some (.fr (.int (if j > i then j else i))) := id rfl
@[simp] theorem sum_lst {xs : List D} : biD .sum [.list xs] = (intsOf xs).map fun ns => .fr (.int ns.sum) := id rfl
@[simp] theorem all_lst {xs : List D} : biD .all [.list xs] = (boolsOf xs).map fun bs => .fr (.bool (bs.all id)) := id rfl
@[simp] theorem any_lst {xs : List D} : biD .any [.list xs] = (boolsOf xs).map fun bs => .fr (.bool (bs.any id)) := id rfl
@[simp] theorem tuple_lst {xs : List D} : biD .tuple [.list xs] = some (.fr (.tuple xs)) := id rfl
@[simp] theorem tuple_tup {xs : List D} : biD .tuple [.tuple xs] = some (.fr (.tuple xs)) := id rfl
@[simp] theorem list_lst {xs : List D} : biD .list [.list xs] = some (.ow xs) := id rfl
@[simp] theorem list_tup {xs : List D} : biD .list [.tuple xs] = some (.ow xs) := id rfl
@[simp] theorem int_int {i : Int} : biD .int [.int i] = some (.fr (.int i)) := id rfl
@[simp] theorem int_bool {b : Bool} : biD .int [.bool b] = some (.fr (.int (b2i b))) := id rfl
@[simp] theorem sorted_lst {xs : List D} : biD .sorted [.list xs] = (sortD xs).map .ow := id rfl
@[simp] theorem sorted_tup {xs : List D} : biD .sorted [.tuple xs] = (sortD xs).map .ow := id rfl
/-! items made to stand still -/
@[simp] theorem fzs_nil {ρ : Env} : fzs [] ρ = .ok [] ρ := id rfl
@[simp] theorem fzs_cons {v : Vl} {vs : List Vl} {ρ : Env} : fzs (v :: vs) ρ = (v.fz ρ).bind fun d ρ1 => (fzs vs ρ1).bind fun ds ρ2 => .ok (d :: ds) ρ2 := id rfl
theorem tupV_ok {ds : List D} {ρ : Env} (h : ds.length ≤ LIM) : tupV ds ρ = .ok (.fr (.tuple ds)) ρ := if_pos h
theorem lstV_ok {ds : List D} {ρ : Env} (h : ds.length ≤ LIM) : lstV ds ρ = .ok (.ow ds) ρ := if_pos h
@[simp] theorem tupV_0 {ρ : Env} : tupV [] ρ = .ok (.fr (.tuple [])) ρ := if_pos (by decide)
@[simp] theorem tupV_1 {a : D} {ρ : Env} : tupV [a] ρ = .ok (.fr (.tuple [a])) ρ := if_pos (by simp [LIM])
@[simp] theorem tupV_2 {a b : D} {ρ : Env} : tupV [a, b] ρ = .ok (.fr (.tuple [a, b])) ρ := if_pos (by simp [LIM])
@[simp] theorem tupV_3 {a b c : D} {ρ : Env} : tupV [a, b, c] ρ = .ok (.fr (.tuple [a, b, c])) ρ := if_pos (by simp [LIM])
@[simp] theorem lstV_0 {ρ : Env} : lstV [] ρ = .ok (.ow []) ρ := if_pos (by decide)
@[simp] theorem lstV_1 {a : D} {ρ : Env} : lstV [a] ρ = .ok (.ow [a]) ρ := if_pos (by simp [LIM])
@[simp] theorem lstV_2 {a b : D} {ρ : Env} : lstV [a, b] ρ = .ok (.ow [a, b]) ρ := if_pos (by simp [LIM])
@[simp] theorem lstV_3 {a b c : D} {ρ : Env} : lstV [a, b, c] ρ = .ok (.ow [a, b, c]) ρ := if_pos (by simp [LIM])
@[simp] theorem lstV_4 {a b c d : D} {ρ : Env} : lstV [a, b, c, d] ρ = .ok (.ow [a, b, c, d]) ρ := if_pos (by simp [LIM])
/-! calls -/
def callO (ρ : Env) (vs : List Vl) : Out Vl → Out Vl
  | .stuck => .stuck
  | .exc x ss' => .exc x (putSl ρ vs ss')
  | .ok (.fr d) ss' => .ok (.fr d) (putSl ρ vs ss')
  | .ok (.ow ds) ss' => .ok (.ow ds) (putSl ρ vs ss')
  | .ok (.bx _) _ => .stuck
@[simp] theorem callO_fr {ρ : Env} {vs : List Vl} {d : D} {ss : Env} : callO ρ vs (.ok (.fr d) ss) = .ok (.fr d) (putSl ρ vs ss) := id rfl
@[simp] theorem callO_ow {ρ : Env} {vs : List Vl} {d : List D} {ss : Env} : callO ρ vs (.ok (.ow d) ss) = .ok (.ow d) (putSl ρ vs ss) := id rfl
@[simp] theorem callO_exc {ρ : Env} {vs : List Vl} {x : Exn} {ss : Env} : callO ρ vs (.exc x ss) = .exc x (putSl ρ vs ss) := id rfl
theorem callV_eq {F : FnV} {vs : List Vl} {ρ : Env} {ss : List Sl} (nd : (bxs vs).Nodup) (h : argSl ρ vs = some ss) : callV F vs ρ = callO ρ vs (F ss) := by
  unfold callV
  rw [if_pos nd, h]
  dsimp only
  cases F ss with
  | stuck => rfl
  | exc x s => rfl
  | ok v s => cases v <;> rfl
@[simp] theorem callV_f1 {F : FnV} {a : D} {ρ : Env} : callV F [.fr a] ρ = callO ρ [.fr a] (F [.fr a]) := callV_eq (by simp [bxs]) rfl
@[simp] theorem callV_f2 {F : FnV} {a b : D} {ρ : Env} : callV F [.fr a, .fr b] ρ = callO ρ [.fr a, .fr b] (F [.fr a, .fr b]) := callV_eq (by simp [bxs]) rfl
@[simp] theorem callV_f3 {F : FnV} {a b c : D} {ρ : Env} : callV F [.fr a, .fr b, .fr c] ρ = callO ρ [.fr a, .fr b, .fr c] (F [.fr a, .fr b, .fr c]) := callV_eq (by simp [bxs]) rfl
@[simp] theorem callV_f4 {F : FnV} {a b c d : D} {ρ : Env} : callV F [.fr a, .fr b, .fr c, .fr d] ρ = callO ρ [.fr a, .fr b, .fr c, .fr d] (F [.fr a, .fr b, .fr c, .fr d]) := callV_eq (by simp [bxs]) rfl
theorem callV_b1 {F : FnV} {i : Nat} {ρ : Env} {s : Sl} (h : ρ[i]? = some s) : callV F [.bx i] ρ = callO ρ [.bx i] (F [s]) := callV_eq (by simp [bxs]) (by simp [argSl, toSl, h])
theorem callV_bf {F : FnV} {i : Nat} {ρ : Env} {s : Sl} {a : D} (h : ρ[i]? = some s) : callV F [.bx i, .fr a] ρ = callO ρ [.bx i, .fr a] (F [s, .fr a]) := callV_eq (by simp [bxs]) (by simp [argSl, toSl, h])
theorem callV_fb {F : FnV} {i : Nat} {ρ : Env} {s : Sl} {a : D} (h : ρ[i]? = some s) : callV F [.fr a, .bx i] ρ = callO ρ [.fr a, .bx i] (F [.fr a, s]) := callV_eq (by simp [bxs]) (by simp [argSl, toSl, h])
theorem callV_bff {F : FnV} {i : Nat} {ρ : Env} {s : Sl} {a b : D} (h : ρ[i]? = some s) : callV F [.bx i, .fr a, .fr b] ρ = callO ρ [.bx i, .fr a, .fr b] (F [s, .fr a, .fr b]) := callV_eq (by simp [bxs]) (by simp [argSl, toSl, h])
@[simp] theorem putSl_nil {ρ : Env} {ss : List Sl} : putSl ρ [] ss = ρ := by unfold putSl; rfl
@[simp] theorem putSl_fr {ρ : Env} {d : D} {vs : List Vl} {s : Sl} {ss : List Sl} : putSl ρ (.fr d :: vs) (s :: ss) = putSl ρ vs ss := id rfl
@[simp] theorem putSl_bx {ρ : Env} {i : Nat} {vs : List Vl} {s : Sl} {ss : List Sl} : putSl ρ (.bx i :: vs) (s :: ss) = putSl (ρ.set i s) vs ss := id rfl
section
variable {Φ : Fns} {ρ : Env}
@[simp ↓] theorem ev_var {i : Nat} : ev Φ (.var i) ρ = evVar ρ[i]? i ρ := by
  show (match ρ[i]? with
    | some (.fr d) => Out.ok (Vl.fr d) ρ
    | some (.bx _) => .ok (Vl.bx i) ρ
    | some (.scr _) => .ok (Vl.bx i) ρ
    | _ => .stuck) = _
  unfold evVar
  cases ρ[i]? with
  | none => rfl
  | some s => cases s <;> rfl
@[simp ↓] theorem ev_lit {d : D} : ev Φ (.lit d) ρ = .ok (.fr d) ρ := id rfl
@[simp ↓] theorem ev_neg {a : T} : ev Φ (.neg a) ρ = (ev Φ a ρ).bind negV := id rfl
@[simp ↓] theorem ev_not {a : T} : ev Φ (.not a) ρ = (ev Φ a ρ).bind fun v ρ1 => (tru v ρ1).bind fun k ρ1 => .ok (.fr (.bool (!k))) ρ1 := Out.assoc _ _ _
@[simp ↓] theorem ev_bin {op : Bo} {a b : T} : ev Φ (.bin op a b) ρ = (ev Φ a ρ).bind fun v ρ1 => (ev Φ b ρ1).bind fun w ρ2 => two (binD op) v w ρ2 := id rfl
@[simp ↓] theorem ev_cmp {op : Co} {a b : T} : ev Φ (.cmp op a b) ρ = (ev Φ a ρ).bind fun v ρ1 => (ev Φ b ρ1).bind fun w ρ2 => two (cmpV op) v w ρ2 := id rfl
def chK (o2 : Co) (k w : Vl) (c : Env → Out Vl) (ρ : Env) : Out Vl := match k with
    | .fr (.bool true) => (c ρ).bind fun u ρ4 => two (cmpV o2) w u ρ4
    | .fr (.bool false) => .ok (.fr (.bool false)) ρ
    | _ => .stuck
@[simp] theorem chK_bool {o2 : Co} {k : Bool} {w : Vl} {c : Env → Out Vl} {ρ : Env} : chK o2 (.fr (.bool k)) w c ρ = if k then (c ρ).bind fun u ρ4 => two (cmpV o2) w u ρ4 else .ok (.fr (.bool false)) ρ := by cases k <;> rfl
@[simp ↓] theorem ev_chain {o1 o2 : Co} {a b c : T} : ev Φ (.chain o1 o2 a b c) ρ = (ev Φ a ρ).bind fun v ρ1 => (ev Φ b ρ1).bind fun w ρ2 => (two (cmpV o1) v w ρ2).bind fun k ρ3 => chK o2 k w (ev Φ c) ρ3 := id rfl
@[simp ↓] theorem ev_and {a b : T} : ev Φ (.and a b) ρ = (ev Φ a ρ).bind fun v ρ1 => (tru v ρ1).bind fun k ρ2 => if k then ev Φ b ρ2 else .ok v.lay ρ2 := id rfl
@[simp ↓] theorem ev_or {a b : T} : ev Φ (.or a b) ρ = (ev Φ a ρ).bind fun v ρ1 => (tru v ρ1).bind fun k ρ2 => if k then .ok v ρ2 else ev Φ b ρ2 := id rfl
@[simp ↓] theorem ev_ite {c a b : T} : ev Φ (.ite c a b) ρ = (ev Φ c ρ).bind fun v ρ1 => (tru v ρ1).bind fun k ρ1 => if k then ev Φ a ρ1 else ev Φ b ρ1 := Out.assoc _ _ _
@[simp ↓] theorem ev_tup {l : T} : ev Φ (.tup l) ρ = (evs Φ l ρ).bind fun vs ρ1 => (fzs vs ρ1).bind tupV := id rfl
@[simp ↓] theorem ev_lst {l : T} : ev Φ (.lst l) ρ = (evs Φ l ρ).bind fun vs ρ1 => (fzs vs ρ1).bind lstV := id rfl
@[simp ↓] theorem ev_call {f : String} {l : T} : ev Φ (.call f l) ρ = (evs Φ l ρ).bind fun vs ρ1 => callV (Φ f) vs ρ1 := id rfl
@[simp ↓] theorem ev_bi {f : Bf} {l : T} : ev Φ (.bi f l) ρ = (evs Φ l ρ).bind (biV f) := id rfl
@[simp ↓] theorem ev_isi {ks : List Ty} {a : T} : ev Φ (.isi ks a) ρ = (ev Φ a ρ).bind (isiV ks) := id rfl
def methG (s : Option Sl) (o : Out Vl) : Out Vl := match s with
  | some (.bx _) => o
  | _ => .stuck
@[simp] theorem methG_bx {ds : List D} {o : Out Vl} : methG (some (.bx ds)) o = o := id rfl
@[simp ↓] theorem ev_meth {m : Me} {i : Nat} {l : T} : ev Φ (.meth m i l) ρ = methG ρ[i]? ((evs Φ l ρ).bind fun vs ρ1 => (fzs vs ρ1).bind fun ds ρ2 => methV m i ds ρ2) := by
  show (match ρ[i]? with
    | some (.bx _) => (evs Φ l ρ).bind fun vs ρ1 => (fzs vs ρ1).bind fun ds ρ2 => methV m i ds ρ2
    | _ => .stuck) = _
  unfold methG
  cases ρ[i]? with
  | none => rfl
  | some s => cases s <;> rfl
@[simp ↓] theorem ev_ix {a b : T} : ev Φ (.ix a b) ρ = (ev Φ a ρ).bind fun v ρ1 => (ev Φ b ρ1).bind fun w ρ2 => two ixD v w ρ2 := id rfl
@[simp ↓] theorem ev_sl {a lo hi : T} : ev Φ (.sl a lo hi) ρ = (ev Φ a ρ).bind fun v ρ1 => (evp Φ lo ρ1).bind fun l ρ2 => (evp Φ hi ρ2).bind fun h ρ3 => slV v l h ρ3 := id rfl
theorem ev_comp {tg : Tg} {own : List Nat} {it c e : T} : ev Φ (.comp tg own it c e) ρ = (evi Φ it ρ).bind fun ds ρ1 =>
      (cloop own tg (fun r => evc Φ c r) (fun r => (ev Φ e r).bind fun v r1 => v.fz r1) ds [] (wipeE ρ1 own)).calm.bind fun xs ρ2 => .ok (.ow xs) (backE ρ1 ρ2 own) := rfl
@[simp ↓] theorem ev_listIt {it : T} : ev Φ (.listIt it) ρ = (evi Φ it ρ).bind lstV := id rfl
@[simp ↓] theorem ev_tupIt {it : T} : ev Φ (.tupIt it) ρ = (evi Φ it ρ).bind tupV := id rfl
@[simp ↓] theorem evs_nil : evs Φ .nil ρ = .ok [] ρ := id rfl
@[simp ↓] theorem evs_cons {a r : T} : evs Φ (.cons a r) ρ = (ev Φ a ρ).bind fun v ρ1 => (evs Φ r ρ1).bind fun vs ρ2 => .ok (v.lay :: vs) ρ2 := id rfl
@[simp ↓] theorem evp_nil : evp Φ .nil ρ = .ok none ρ := id rfl
@[simp ↓] theorem evp_cons {a r : T} : evp Φ (.cons a r) ρ = (ev Φ a ρ).bind intV := id rfl
@[simp ↓] theorem evc_nil : evc Φ .nil ρ = .ok true ρ := id rfl
@[simp ↓] theorem evc_cons {a r : T} : evc Φ (.cons a r) ρ = (ev Φ a ρ).bind tru := id rfl
@[simp ↓] theorem evi_dat {a : T} : evi Φ (.dat a) ρ = (ev Φ a ρ).bind fun v ρ1 => (v.fz ρ1).bind fun d ρ2 => Out.ofO (seqOf d) ρ2 := id rfl
def rngO (o : Option D) (ρ : Env) : Out (List D) := match o with
  | some d => Out.ofO (rngD [d]) ρ
  | none => .stuck
@[simp] theorem rngO_some {d : D} {ρ : Env} : rngO (some d) ρ = Out.ofO (rngD [d]) ρ := id rfl
@[simp ↓] theorem evi_rng1 {a : T} : evi Φ (.rng1 a) ρ = (ev Φ a ρ).bind fun v ρ1 => rngO (v.lay.data ρ1) ρ1 := by
  show (ev Φ a ρ).bind rngV1 = _
  first
    | rfl
    | (congr 1; done)
def rngO2 (o p : Option D) (ρ : Env) : Out (List D) := match o, p with
  | some d, some e => Out.ofO (rngD [d, e]) ρ
  | _, _ => .stuck
@[simp] theorem rngO2_some {d e : D} {ρ : Env} : rngO2 (some d) (some e) ρ = Out.ofO (rngD [d, e]) ρ := id rfl
@[simp ↓] theorem evi_rng2 {a b : T} : evi Φ (.rng2 a b) ρ = (ev Φ a ρ).bind fun v ρ1 => (ev Φ b ρ1).bind fun u ρ2 => rngO2 (v.lay.data ρ2) (u.lay.data ρ2) ρ2 := by
  show ((ev Φ a ρ).bind fun v ρ1 => (ev Φ b ρ1).bind fun u ρ2 => rngV2 v u ρ2) = _
  first
    | rfl
    | (congr 1; done)
@[simp ↓] theorem evi_enum {a : T} : evi Φ (.enum a) ρ = (ev Φ a ρ).bind fun v ρ1 => (v.lay.fz ρ1).bind fun d ρ2 => Out.ofO (enumL d) ρ2 := id rfl
@[simp ↓] theorem evi_zip {a b : T} : evi Φ (.zip a b) ρ = (ev Φ a ρ).bind fun v ρ1 => (ev Φ b ρ1).bind fun u ρ2 => (v.lay.fz ρ2).bind fun d ρ3 => (u.lay.fz ρ3).bind fun e ρ4 => Out.ofO (zipD d e) ρ4 := id rfl
@[simp] theorem seqOf_lst {xs : List D} : seqOf (.list xs) = some xs := id rfl
@[simp] theorem seqOf_tup {xs : List D} : seqOf (.tuple xs) = some xs := id rfl
@[simp ↓] theorem ex_skip : ex Φ .skip ρ = .ok .nx ρ := id rfl
@[simp ↓] theorem ex_brk : ex Φ .brk ρ = .ok .bk ρ := id rfl
@[simp ↓] theorem ex_cnt : ex Φ .cnt ρ = .ok .ct ρ := id rfl
def thenS (f : Fl) (k : Env → Out Fl) (ρ : Env) : Out Fl := match f with
    | .nx => k ρ
    | f => .ok f ρ
@[simp] theorem thenS_nx {k : Env → Out Fl} {ρ : Env} : thenS .nx k ρ = k ρ := id rfl
@[simp] theorem thenS_rt {v : Vl} {k : Env → Out Fl} {ρ : Env} : thenS (.rt v) k ρ = .ok (.rt v) ρ := id rfl
@[simp] theorem thenS_bk {k : Env → Out Fl} {ρ : Env} : thenS .bk k ρ = .ok .bk ρ := id rfl
@[simp] theorem thenS_ct {k : Env → Out Fl} {ρ : Env} : thenS .ct k ρ = .ok .ct ρ := id rfl
@[simp ↓] theorem ex_seq {a b : T} : ex Φ (.seq a b) ρ = (ex Φ a ρ).bind fun f ρ1 => thenS f (ex Φ b) ρ1 := by
  show ((ex Φ a ρ).bind fun f ρ1 => match f with
    | .nx => ex Φ b ρ1
    | f => .ok f ρ1) = _
  first
    | rfl
    | (congr 1; done)
@[simp ↓] theorem ex_set {i : Nat} {e : T} : ex Φ (.set i e) ρ = (ev Φ e ρ).bind fun v ρ1 => setV i v ρ1 := id rfl
@[simp] theorem setV_fr {i : Nat} {d : D} : setV i (.fr d) ρ = if i < ρ.length then .ok .nx (ρ.set i (.fr d)) else .stuck := id rfl
@[simp] theorem setV_ow {i : Nat} {d : List D} : setV i (.ow d) ρ = if i < ρ.length then .ok .nx (ρ.set i (.bx d)) else .stuck := id rfl
@[simp] theorem setV_bx {i j : Nat} : setV i (.bx j) ρ = if i < ρ.length then ((Vl.bx j).fz ρ).bind fun d ρ1 => .ok .nx (ρ1.set i (.fr d)) else .stuck := id rfl
@[simp ↓] theorem ex_setT {tg : Tg} {e : T} : ex Φ (.setT tg e) ρ = (ev Φ e ρ).bind fun v ρ1 => (v.fz ρ1).bind fun d ρ2 => (Out.ofO (asg tg d ρ2) ρ2).bind fun ρ3 _ => .ok .nx ρ3 := id rfl
@[simp ↓] theorem ex_par {i j : Nat} {a b : T} : ex Φ (.par i j a b) ρ = (ev Φ a ρ).bind fun v ρ1 => (unbx v ρ1).bind fun v' ρ2 => (ev Φ b ρ2).bind fun u ρ3 => (unbx u ρ3).bind fun u' ρ4 => putV i v' ρ4 fun ρ5 => putV j u' ρ5 fun ρ6 => .ok .nx ρ6 := id rfl
@[simp ↓] theorem ex_par3 {i j k : Nat} {a b c : T} : ex Φ (.par3 i j k a b c) ρ = (ev Φ a ρ).bind fun v ρ1 => (unbx v ρ1).bind fun v' ρ2 => (ev Φ b ρ2).bind fun u ρ3 => (unbx u ρ3).bind fun u' ρ4 => (ev Φ c ρ4).bind fun z ρ5 => (unbx z ρ5).bind fun z' ρ6 => putV i v' ρ6 fun ρ7 => putV j u' ρ7 fun ρ8 => putV k z' ρ8 fun ρ9 => .ok .nx ρ9 := id rfl
@[simp] theorem unbx_fr {d : D} : unbx (.fr d) ρ = .ok (.fr d) ρ := id rfl
@[simp] theorem unbx_ow {d : List D} : unbx (.ow d) ρ = .ok (.ow d) ρ := id rfl
@[simp] theorem unbx_bx {i : Nat} : unbx (.bx i) ρ = ((Vl.bx i).fz ρ).bind fun d ρ1 => .ok (.fr d) ρ1 := id rfl
@[simp] theorem putV_fr {i : Nat} {d : D} {k : Env → Out Fl} : putV i (.fr d) ρ k = if i < ρ.length then k (ρ.set i (.fr d)) else .stuck := id rfl
@[simp] theorem putV_ow {i : Nat} {d : List D} {k : Env → Out Fl} : putV i (.ow d) ρ k = if i < ρ.length then k (ρ.set i (.bx d)) else .stuck := id rfl
def setIxO (i : Nat) (d : D) (k : Option D) (s : Option Sl) (ρ : Env) : Out Fl := match k, s with
  | some (.int k), some (.bx ds) => match ixOf ds.length k with
    | some j => .ok .nx (ρ.set i (.bx (ds.set j d)))
    | none => .stuck
  | _, _ => .stuck
theorem setIxO_ok {i j : Nat} {d : D} {k : Int} {ds : List D} {ρ : Env} (h : ixOf ds.length k = some j) : setIxO i d (some (.int k)) (some (.bx ds)) ρ = .ok .nx (ρ.set i (.bx (ds.set j d))) := by
  unfold setIxO
  simp [h]
@[simp] theorem setIxV_eq {i : Nat} {d : D} {u : Vl} {ρ : Env} : setIxV i d u ρ = setIxO i d (u.lay.data ρ) ρ[i]? ρ := by
  unfold setIxV setIxO
  cases u.lay.data ρ with
  | none => rfl
  | some e =>
    cases e <;> first | rfl | (cases ρ[i]? with
      | none => rfl
      | some s => cases s <;> rfl)
def boxG (s : Option Sl) (o : Out Fl) : Out Fl := match s with
  | some (.bx _) => o
  | _ => .stuck
@[simp] theorem boxG_bx {ds : List D} {o : Out Fl} : boxG (some (.bx ds)) o = o := id rfl
@[simp ↓] theorem ex_setIx {i : Nat} {k e : T} : ex Φ (.setIx i k e) ρ = (ev Φ e ρ).bind fun v ρ1 => (v.fz ρ1).bind fun d ρ2 => boxG ρ2[i]? ((ev Φ k ρ2).bind fun u ρ3 => setIxV i d u ρ3) := by
  show ((ev Φ e ρ).bind fun v ρ1 => (v.fz ρ1).bind fun d ρ2 => match ρ2[i]? with
    | some (.bx _) => (ev Φ k ρ2).bind fun u ρ3 => setIxV i d u ρ3
    | _ => .stuck) = _
  first
    | rfl
    | (congr 1; done)
@[simp ↓] theorem ex_expr {e : T} : ex Φ (.expr e) ρ = (ev Φ e ρ).bind fun _ ρ1 => .ok .nx ρ1 := id rfl
@[simp ↓] theorem ex_ret {e : T} : ex Φ (.ret e) ρ = (ev Φ e ρ).bind fun v ρ1 => retV v ρ1 := id rfl
@[simp] theorem retV_fr {d : D} : retV (.fr d) ρ = .ok (.rt (.fr d)) ρ := id rfl
@[simp] theorem retV_ow {d : List D} : retV (.ow d) ρ = .ok (.rt (.ow d)) ρ := id rfl
def retO (i : Nat) (s : Option Sl) (ρ : Env) : Out Fl := match s with
  | some (.bx ds) => .ok (.rt (.ow ds)) (ρ.set i .no)
  | some (.fr d) => .ok (.rt (.fr d)) ρ
  | _ => .stuck
@[simp] theorem retO_bx {i : Nat} {ds : List D} : retO i (some (.bx ds)) ρ = .ok (.rt (.ow ds)) (ρ.set i .no) := id rfl
@[simp] theorem retO_fr {i : Nat} {d : D} : retO i (some (.fr d)) ρ = .ok (.rt (.fr d)) ρ := id rfl
@[simp] theorem retV_bx {i : Nat} : retV (.bx i) ρ = retO i ρ[i]? ρ := by
  show (match ρ[i]? with
    | some (.bx ds) => Out.ok (Fl.rt (.ow ds)) (ρ.set i .no)
    | some (.fr d) => .ok (Fl.rt (.fr d)) ρ
    | _ => .stuck) = _
  unfold retO
  cases ρ[i]? with
  | none => rfl
  | some s => cases s <;> rfl
@[simp ↓] theorem ex_retN : ex Φ .retN ρ = .ok (.rt (.fr .none)) ρ := id rfl
@[simp ↓] theorem ex_ife {c a b : T} : ex Φ (.ife c a b) ρ = (evc Φ c ρ).bind fun k ρ1 => if k then ex Φ a ρ1 else ex Φ b ρ1 := id rfl
theorem ex_whl {c b : T} : ex Φ (.whl c b) ρ = wloop (evc Φ c) (ex Φ b) ρ := rfl
theorem ex_forr {tg : Tg} {it b : T} : ex Φ (.forr tg it b) ρ = (evi Φ it ρ).bind fun ds ρ1 => floop tg (ex Φ b) ds ρ1 := rfl
@[simp ↓] theorem ex_raise {x : Exn} : ex Φ (.raise x) ρ = .exc x ρ := id rfl
def fnO (kp : List Nat) (as : List Sl) : Out Fl → Out Vl
  | .stuck => .stuck
  | .exc x ρ => .exc x (endSl kp 0 as ρ)
  | .ok .nx ρ => .ok (.fr .none) (endSl kp 0 as ρ)
  | .ok (.rt v) ρ => .ok v (endSl kp 0 as ρ)
  | .ok _ _ => .stuck
@[simp] theorem fnO_exc {kp : List Nat} {as : List Sl} {x : Exn} : fnO kp as (.exc x ρ) = .exc x (endSl kp 0 as ρ) := id rfl
@[simp] theorem fnO_nx {kp : List Nat} {as : List Sl} : fnO kp as (.ok .nx ρ) = .ok (.fr .none) (endSl kp 0 as ρ) := id rfl
@[simp] theorem fnO_rt {kp : List Nat} {as : List Sl} {v : Vl} : fnO kp as (.ok (.rt v) ρ) = .ok v (endSl kp 0 as ρ) := id rfl
theorem fnV_eq {np n : Nat} {kp : List Nat} {b : T} {as : List Sl} (h : as.length = np ∧ heldOk kp 0 as = true) : fnV Φ np n kp b as = fnO kp as (ex Φ b (as ++ List.replicate n .no)) := by
  unfold fnV
  rw [if_pos h]
  cases ex Φ b (as ++ List.replicate n .no) with
  | stuck => rfl
  | exc x r => rfl
  | ok f r => cases f <;> rfl
end
@[simp] theorem endSl_nil {kp : List Nat} {k : Nat} {ρ : Env} : endSl kp k [] ρ = [] := id rfl
@[simp] theorem endSl_cons {kp : List Nat} {k : Nat} {s : Sl} {as : List Sl} {ρ : Env} : endSl kp k (s :: as) ρ = (if kp.contains k then ρ.getD k .no else s) :: endSl kp (k + 1) as ρ := id rfl
@[simp] theorem heldOk_nil {kp : List Nat} {k : Nat} : heldOk kp k [] = true := id rfl
@[simp] theorem heldOk_cons {kp : List Nat} {k : Nat} {s : Sl} {as : List Sl} : heldOk kp k (s :: as) = ((kp.contains k || noBx s) && heldOk kp (k + 1) as) := id rfl
@[simp] theorem noBx_fr {d : D} : noBx (.fr d) = true := id rfl
@[simp] theorem noBx_bx {d : List D} : noBx (.bx d) = false := id rfl
@[simp] theorem noBx_scr {d : List Int} : noBx (.scr d) = true := id rfl
@[simp] theorem asg_nm {i : Nat} {d : D} {ρ : Env} : asg (.nm i) d ρ = if i < ρ.length then some (ρ.set i (.fr d)) else none := by unfold asg; rfl
@[simp] theorem asg_tup {l : Tg} {ds : List D} {ρ : Env} : asg (.tp l) (.tuple ds) ρ = asgs l ds ρ := by unfold asg; rfl
@[simp] theorem asg_lst {l : Tg} {ds : List D} {ρ : Env} : asg (.tp l) (.list ds) ρ = asgs l ds ρ := by unfold asg; rfl
@[simp] theorem asgs_nil {ρ : Env} : asgs .nil [] ρ = some ρ := by unfold asgs; rfl
@[simp] theorem asgs_cons {h t : Tg} {d : D} {ds : List D} {ρ : Env} : asgs (.cons h t) (d :: ds) ρ = (asg h d ρ).bind (asgs t ds) := by rw [asgs]
@[simp] theorem isTy_nd {k : Ty} : isTy k .none = false := by cases k <;> rfl
@[simp] theorem notDict_none : notDict .none = true := id rfl
@[simp] theorem notDict_int {i : Int} : notDict (.int i) = true := id rfl
@[simp] theorem notDict_bool {i : Bool} : notDict (.bool i) = true := id rfl
@[simp] theorem notDict_str {i : Str} : notDict (.str i) = true := id rfl
@[simp] theorem notDict_list {i : List D} : notDict (.list i) = true := id rfl
@[simp] theorem notDict_tuple {i : List D} : notDict (.tuple i) = true := id rfl
end Wk
end T_Sim
section T_L1
set_option maxHeartbeats 1000000
/-! L1: what the text's first defs are worth. -/
namespace Wk
open PySem
def t_is_number : T := (.seq (.ret (.and (.isi [.tint] (.var 0)) (.not (.isi [.tbool] (.var 0))))) .skip)
def t_is_within : T := (.seq (.ret (.and (.call "is_number" (.cons (.var 0) .nil)) (.chain .le .le (.var 1) (.var 0) (.var 2)))) .skip)
def t_is_long : T := (.seq (.ret (.and (.isi [.ttuple] (.var 0)) (.cmp .eq (.bi .len (.cons (.var 0) .nil)) (.var 1)))) .skip)
def e_are_numbers_0 : T := (.call "is_number" (.cons (.var 1) .nil))
def c_are_numbers_1 : T := (.comp (.nm 1) [1] (.dat (.var 0)) .nil e_are_numbers_0)
def t_are_numbers : T := (.seq (.ret (.and (.isi [.ttuple] (.var 0)) (.bi .all (.cons c_are_numbers_1 .nil)))) .skip)
def e_tupled_0 : T := (.call "tupled" (.cons (.var 1) .nil))
def c_tupled_1 : T := (.comp (.nm 1) [1] (.dat (.var 0)) .nil e_tupled_0)
def t_tupled : T := (.seq (.ret (.ite (.isi [.tlist, .ttuple] (.var 0)) (.bi .tuple (.cons c_tupled_1 .nil)) (.var 0))) .skip)
def t_is_shuffle_of : T := (.seq (.ret (.and (.call "is_long" (.cons (.var 1) (.cons (.var 0) .nil))) (.and (.call "are_numbers" (.cons (.var 1) .nil)) (.cmp .eq (.bi .sorted (.cons (.var 1) .nil)) (.listIt (.rng1 (.var 0))))))) .skip)
def e_is_state_of_0 : T := (.call "is_within" (.cons (.var 3) (.cons (.lit (.int 0)) (.cons (.bin .sub (.var 1) (.lit (.int 1))) .nil))))
def c_is_state_of_1 : T := (.comp (.nm 3) [3] (.dat (.ix (.var 2) (.lit (.int 1)))) .nil e_is_state_of_0)
def t_is_state_of : T := (.seq (.ife (.cons (.or (.not (.call "is_long" (.cons (.var 2) (.cons (.lit (.int 2)) .nil)))) (.or (.not (.call "is_shuffle_of" (.cons (.var 0) (.cons (.ix (.var 2) (.lit (.int 0))) .nil)))) (.not (.call "is_long" (.cons (.ix (.var 2) (.lit (.int 1))) (.cons (.var 0) .nil)))))) .nil) (.seq (.ret (.lit (.bool false))) .skip) .skip) (.seq (.ret (.bi .all (.cons c_is_state_of_1 .nil))) .skip))
def e_is_machine_in_0 : T := (.call "is_state_of" (.cons (.ix (.var 0) (.lit (.int 0))) (.cons (.var 1) (.cons (.var 2) .nil))))
def c_is_machine_in_1 : T := (.comp (.nm 2) [2] (.dat (.ix (.var 0) (.lit (.int 1)))) .nil e_is_machine_in_0)
def t_is_machine_in : T := (.seq (.ife (.cons (.or (.not (.call "is_long" (.cons (.var 0) (.cons (.lit (.int 2)) .nil)))) (.or (.not (.call "is_within" (.cons (.ix (.var 0) (.lit (.int 0))) (.cons (.lit (.int 2)) (.cons (.lit (.int 5)) .nil))))) (.not (.isi [.ttuple] (.ix (.var 0) (.lit (.int 1))))))) .nil) (.seq (.ret (.lit (.bool false))) .skip) .skip) (.seq (.set 1 (.bi .len (.cons (.ix (.var 0) (.lit (.int 1))) .nil))) (.seq (.ret (.and (.chain .le .le (.lit (.int 1)) (.var 1) (.lit (.int 12))) (.bi .all (.cons c_is_machine_in_1 .nil)))) .skip)))
def t_sure_machine : T := (.seq (.set 1 (.call "tupled" (.cons (.var 0) .nil))) (.seq (.ife (.cons (.not (.call "is_machine_in" (.cons (.var 1) .nil))) .nil) (.seq (.raise "Unfit") .skip) .skip) (.seq (.ret (.var 1)) .skip)))
/-! data -/
def sc : D → Bool
  | .none => true
  | .bool _ => true
  | .int _ => true
  | .str x => PyData.strOk x && decide (x.length ≤ LIM)
  | _ => false
/-- whole, no deeper than n -/
def fit : Nat → D → Bool
  | n + 1, .list xs => decide (xs.length ≤ 100000) && xs.all (fit n)
  | n + 1, .tuple xs => decide (xs.length ≤ 100000) && xs.all (fit n)
  | _, d => sc d
theorem fit_nd : ∀ {n : Nat} {d : D}, fit n d = true → notDict d = true
  | 0, d, h => by cases d <;> first | rfl | (cases h)
  | n + 1, d, h => by cases d <;> first | rfl | (cases h)
theorem fit_list {n : Nat} {xs : List D} (h : fit (n + 1) (.list xs) = true) : xs.length ≤ 100000 ∧ ∀ x ∈ xs, fit n x = true := by
  have h : (decide (xs.length ≤ 100000) && xs.all (fit n)) = true := h
  simpa using h
theorem fit_tuple {n : Nat} {xs : List D} (h : fit (n + 1) (.tuple xs) = true) : xs.length ≤ 100000 ∧ ∀ x ∈ xs, fit n x = true := by
  have h : (decide (xs.length ≤ 100000) && xs.all (fit n)) = true := h
  simpa using h
theorem fit_mono : ∀ {n : Nat} {d : D}, fit n d = true → fit (n + 1) d = true
  | 0, d, h => by cases d <;> first | exact h | (cases h)
  | n + 1, d, h => by
    cases d with
    | list xs =>
      obtain ⟨h1, h2⟩ := fit_list h
      show (decide (xs.length ≤ 100000) && xs.all (fit (n + 1))) = true
      simp only [Bool.and_eq_true, decide_eq_true_eq, List.all_eq_true]
      exact ⟨h1, fun x hx => fit_mono (h2 x hx)⟩
    | tuple xs =>
      obtain ⟨h1, h2⟩ := fit_tuple h
      show (decide (xs.length ≤ 100000) && xs.all (fit (n + 1))) = true
      simp only [Bool.and_eq_true, decide_eq_true_eq, List.all_eq_true]
      exact ⟨h1, fun x hx => fit_mono (h2 x hx)⟩
    | _ => exact h
theorem fit_le {n m : Nat} {d : D} (h : fit n d = true) (hl : n ≤ m) : fit m d = true := by
  induction hl with
  | refl => exact h
  | step _ ih => exact fit_mono ih
theorem canAll {xs : List D} (h : ∀ x ∈ xs, x.canLay0 = true) : PyData.canLayAll0 xs = true := by
  induction xs with
  | nil => rfl
  | cons x xs ih =>
    unfold PyData.canLayAll0
    rw [h x List.mem_cons_self, ih fun y hy => h y (List.mem_cons_of_mem _ hy)]
    rfl
theorem depAll {xs : List D} {n : Nat} (h : ∀ x ∈ xs, x.depth ≤ n) : PyData.depthAll xs ≤ n := by
  induction xs with
  | nil => exact Nat.zero_le _
  | cons x xs ih =>
    unfold PyData.depthAll
    exact Nat.max_le.mpr ⟨h x List.mem_cons_self, ih fun y hy => h y (List.mem_cons_of_mem _ hy)⟩
theorem fit_lay : ∀ {n : Nat} {d : D}, fit n d = true → d.canLay0 = true ∧ d.depth ≤ n
  | 0, d, h => by
    cases d with
    | str x =>
      have h : (PyData.strOk x && decide (x.length ≤ LIM)) = true := h
      exact ⟨by unfold PyData.canLay0; exact (Bool.and_eq_true_iff.mp h).1, by unfold PyData.depth; exact Nat.zero_le _⟩
    | list _ => cases h
    | tuple _ => cases h
    | dict _ => cases h
    | _ => exact ⟨by unfold PyData.canLay0; rfl, by unfold PyData.depth; exact Nat.zero_le _⟩
  | n + 1, d, h => by
    cases d with
    | str x =>
      have h : (PyData.strOk x && decide (x.length ≤ LIM)) = true := h
      exact ⟨by unfold PyData.canLay0; exact (Bool.and_eq_true_iff.mp h).1, by unfold PyData.depth; exact Nat.zero_le _⟩
    | list xs =>
      obtain ⟨h1, h2⟩ := fit_list h
      exact ⟨by unfold PyData.canLay0; exact canAll fun x hx => (fit_lay (h2 x hx)).1, by unfold PyData.depth; exact Nat.succ_le_succ (depAll fun x hx => (fit_lay (h2 x hx)).2)⟩
    | tuple xs =>
      obtain ⟨h1, h2⟩ := fit_tuple h
      exact ⟨by unfold PyData.canLay0; exact canAll fun x hx => (fit_lay (h2 x hx)).1, by unfold PyData.depth; exact Nat.succ_le_succ (depAll fun x hx => (fit_lay (h2 x hx)).2)⟩
    | dict _ => cases h
    | _ => exact ⟨by unfold PyData.canLay0; rfl, by unfold PyData.depth; exact Nat.zero_le _⟩
theorem fit_shp {n : Nat} {d : D} (h : fit n d = true) (hn : n ≤ 64) : shp d = true := by
  obtain ⟨h1, h2⟩ := fit_lay h
  show (d.canLay0 && decide (d.depth ≤ 64)) = true
  rw [h1, decide_eq_true (Nat.le_trans h2 hn)]
  rfl
@[simp] theorem fit_int {n : Nat} {i : Int} : fit n (.int i) = true := by cases n <;> exact id rfl
@[simp] theorem fit_bool {n : Nat} {i : Bool} : fit n (.bool i) = true := by cases n <;> exact id rfl
@[simp] theorem fit_none {n : Nat} : fit n .none = true := by cases n <;> exact id rfl
@[simp] theorem shp_int {i : Int} : shp (.int i) = true := fit_shp (n := 0) (by simp) (by decide)
@[simp] theorem shp_bool {i : Bool} : shp (.bool i) = true := fit_shp (n := 0) (by simp) (by decide)
@[simp] theorem eq_int {i j : Int} : cmpD .eq (.int i) (.int j) = some (decide (i = j)) := by
  rw [eq_D ⟨shp_int, shp_int⟩]
  unfold PyData.eqv
  congr 1
@[simp] theorem ne_int {i j : Int} : cmpD .ne (.int i) (.int j) = some (!decide (i = j)) := by
  rw [ne_D ⟨shp_int, shp_int⟩]
  unfold PyData.eqv
  congr 1
@[simp] theorem eq_bool {i j : Bool} : cmpD .eq (.bool i) (.bool j) = some (i == j) := by
  rw [eq_D ⟨shp_bool, shp_bool⟩]
  unfold PyData.eqv
  rfl
@[simp] theorem ne_bool {i j : Bool} : cmpD .ne (.bool i) (.bool j) = some (!(i == j)) := by
  rw [ne_D ⟨shp_bool, shp_bool⟩]
  unfold PyData.eqv
  rfl
mutual
theorem eqv_refl : ∀ {d : D}, d.canLay0 = true → PyData.eqv d d = true
  | .none, _ => by unfold PyData.eqv; rfl
  | .bool b, _ => by unfold PyData.eqv; simp
  | .int i, _ => by unfold PyData.eqv; simp
  | .str x, _ => by unfold PyData.eqv; simp
  | .list xs, h => by unfold PyData.eqv; exact eqvs_refl (by unfold PyData.canLay0 at h; exact h)
  | .tuple xs, h => by unfold PyData.eqv; exact eqvs_refl (by unfold PyData.canLay0 at h; exact h)
  | .dict _, h => by unfold PyData.canLay0 at h; cases h
theorem eqvs_refl : ∀ {xs : List D}, PyData.canLayAll0 xs = true → PyData.eqvAll xs xs = true
  | [], _ => by unfold PyData.eqvAll; rfl
  | x :: xs, h => by
    unfold PyData.canLayAll0 at h
    obtain ⟨h1, h2⟩ := Bool.and_eq_true_iff.mp h
    unfold PyData.eqvAll
    rw [eqv_refl h1, eqvs_refl h2]
    rfl
end
/-! comprehensions -/
theorem cloop_map {own : List Nat} {tg : Tg} {c : Env → Out Bool} {e : Env → Out D} {f : D → D} {ρ : Env} (hw : wipeE ρ own = ρ) : ∀ {ds acc : List D}, (∀ d ∈ ds, ∃ ρa, asg tg d ρ = some ρa ∧ c ρa = .ok true ρa ∧ ∃ ρb, e ρa = .ok (f d) ρb ∧ wipeE ρb own = ρ) → acc.length + ds.length ≤ LIM →
    cloop own tg c e ds acc ρ = .ok (acc ++ ds.map f) ρ
  | [], acc, _, _ => by simp [cloop]
  | d :: ds, acc, h, hl => by
    obtain ⟨ρa, h1, h2, ρb, h3, h4⟩ := h d List.mem_cons_self
    unfold cloop
    rw [hw, h1]
    simp only [Out.ofO_some, Out.bind_ok]
    rw [h2]
    simp only [Out.bind_ok, if_true]
    rw [h3]
    simp only [Out.bind_ok]
    rw [if_pos (by simp at hl; omega), h4, cloop_map hw (fun x hx => h x (List.mem_cons_of_mem _ hx)) (by simp at hl ⊢; omega)]
    simp
theorem ev_comp_map {Φ : Fns} {tg : Tg} {own : List Nat} {it c e : T} {ρ ρ1 ρw : Env} {ds : List D} {f : D → D} (hi : evi Φ it ρ = .ok ds ρ1) (hw1 : wipeE ρ1 own = ρw) (hw : wipeE ρw own = ρw) (hb : backE ρ1 ρw own = ρ1) (hl : ds.length ≤ LIM)
    (h : ∀ d ∈ ds, ∃ ρa, asg tg d ρw = some ρa ∧ evc Φ c ρa = .ok true ρa ∧ ∃ ρc, ((ev Φ e ρa).bind fun v r1 => v.fz r1) = .ok (f d) ρc ∧ wipeE ρc own = ρw) : ev Φ (.comp tg own it c e) ρ = .ok (.ow (ds.map f)) ρ1 := by
  rw [ev_comp, hi]
  simp only [Out.bind_ok]
  rw [hw1, cloop_map (f := f) hw (fun d hd => ?_) (by simpa using hl)]
  · show Out.bind (Out.calm (.ok ([] ++ ds.map f) ρw)) _ = _
    show Out.ok (Vl.ow ([] ++ ds.map f)) (backE ρ1 ρw own) = _
    rw [hb]
    rfl
  · obtain ⟨ρa, h1, h2, ρc, h3, h5⟩ := h d hd
    exact ⟨ρa, h1, h2, ρc, h3, h5⟩
theorem boolsOf_map' {α : Type} (f : α → Bool) : ∀ l : List α, boolsOf (l.map fun x => PyData.bool (f x)) = some (l.map f)
  | [] => rfl
  | x :: l => by simp [boolsOf, boolsOf_map' f l]
@[simp] theorem all_id {α : Type} (f : α → Bool) (l : List α) : (l.map f).all id = l.all f := by simp [List.all_map]
/-! the defs -/
def isNum : D → Bool
  | .int _ => true
  | _ => false
theorem v_is_number {Φ : Fns} {d : D} (h : notDict d = true) : fnV Φ 1 0 [0] t_is_number [.fr d] = .ok (.fr (.bool (isNum d))) [.fr d] := by
  rw [fnV_eq (by simp)]
  cases d <;> first | (cases h; done) | simp [t_is_number, isNum]
def inR (lo hi : Int) : D → Bool
  | .int i => decide (lo ≤ i) && decide (i ≤ hi)
  | _ => false
abbrev SNum (F : FnV) : Prop := ∀ d, notDict d = true → F [.fr d] = .ok (.fr (.bool (isNum d))) [.fr d]
abbrev SWithin (F : FnV) : Prop := ∀ d lo hi, notDict d = true → F [.fr d, .fr (.int lo), .fr (.int hi)] = .ok (.fr (.bool (inR lo hi d))) [.fr d, .fr (.int lo), .fr (.int hi)]
theorem v_is_within {Φ : Fns} (hn : SNum (Φ "is_number")) : SWithin (fnV Φ 3 0 [0, 1, 2] t_is_within) := by
  intro d lo hi h
  rw [fnV_eq (by simp)]
  cases d with
  | int i =>
    simp [t_is_within, hn, isNum, inR]
    by_cases h1 : lo ≤ i <;> simp [h1]
  | dict _ => cases h
  | _ => simp [t_is_within, hn, isNum, inR]
def isLong (n : Int) : D → Bool
  | .tuple xs => decide ((xs.length : Int) = n)
  | _ => false
abbrev SLong (F : FnV) : Prop := ∀ d n, notDict d = true → F [.fr d, .fr (.int n)] = .ok (.fr (.bool (isLong n d))) [.fr d, .fr (.int n)]
theorem v_is_long {Φ : Fns} : SLong (fnV Φ 2 0 [0, 1] t_is_long) := by
  intro d n h
  rw [fnV_eq (by simp)]
  cases d <;> first | (cases h; done) | simp [t_is_long, isLong]
def areNums : D → Bool
  | .tuple xs => xs.all isNum
  | _ => false
abbrev SNums (F : FnV) : Prop := ∀ n d, fit (n + 1) d = true → F [.fr d] = .ok (.fr (.bool (areNums d))) [.fr d]
theorem v_are_numbers {Φ : Fns} (hn : SNum (Φ "is_number")) : SNums (fnV Φ 1 1 [0] t_are_numbers) := by
  intro n d h
  have nd := fit_nd h
  rw [fnV_eq (by simp)]
  cases d with
  | tuple xs =>
    obtain ⟨h1, h2⟩ := fit_tuple h
    have hc : ev Φ c_are_numbers_1 [.fr (.tuple xs), .no] = .ok (.ow (xs.map fun x => .bool (isNum x))) [.fr (.tuple xs), .no] := by
      refine ev_comp_map (ρw := [.fr (.tuple xs), .no]) (by simp) (by simp [wipeE]) (by simp [wipeE]) (by simp [backE]) (by simp [LIM]; omega) fun d hd => ?_
      have := fit_nd (h2 d hd)
      simp [e_are_numbers_0, hn, this, wipeE]
    simp [t_are_numbers, hc, boolsOf_map', areNums]
  | dict _ => cases nd
  | _ => simp [t_are_numbers, areNums]
mutual
def toTup : D → D
  | .list xs => .tuple (toTups xs)
  | .tuple xs => .tuple (toTups xs)
  | d => d
def toTups : List D → List D
  | [] => []
  | x :: xs => toTup x :: toTups xs
end
theorem toTups_eq : ∀ xs : List D, toTups xs = xs.map toTup
  | [] => by unfold toTups; rfl
  | x :: xs => by unfold toTups; rw [toTups_eq xs]; rfl
abbrev STup (n : Nat) (F : FnV) : Prop := ∀ d, fit n d = true → F [.fr d] = .ok (.fr (toTup d)) [.fr d]
theorem v_tupled {Φ : Fns} {n : Nat} (ih : STup n (Φ "tupled")) : STup (n + 1) (fnV Φ 1 1 [0] t_tupled) := by
  intro d h
  have nd := fit_nd h
  rw [fnV_eq (by simp)]
  have go : ∀ d xs, (d = .list xs ∨ d = .tuple xs) → fit (n + 1) d = true → ev Φ c_tupled_1 [.fr d, .no] = .ok (.ow (xs.map toTup)) [.fr d, .no] := by
    intro d xs hd h
    have hh : xs.length ≤ 100000 ∧ ∀ x ∈ xs, fit n x = true := by
      rcases hd with rfl | rfl
      · exact fit_list h
      · exact fit_tuple h
    refine ev_comp_map (ρw := [.fr d, .no]) (ds := xs) (by rcases hd with rfl | rfl <;> simp) (by simp [wipeE]) (by simp [wipeE]) (by simp [backE]) (by have := hh.1; simp [LIM]; omega) fun x hx => ?_
    have := ih x (hh.2 x hx)
    simp [e_tupled_0, this, wipeE]
  cases d with
  | tuple xs => simp [t_tupled, go _ xs (.inr rfl) h, toTup, toTups_eq]
  | list xs => simp [t_tupled, go _ xs (.inl rfl) h, toTup, toTups_eq]
  | dict _ => cases nd
  | _ => simp [t_tupled, toTup]
theorem v_tupled0 {Φ : Fns} : STup 0 (fnV Φ 1 1 [0] t_tupled) := by
  intro d h
  rw [fnV_eq (by simp)]
  cases d <;> first | (cases h; done) | simp [t_tupled, toTup]
end Wk
end T_L1
section T_LB
set_option maxHeartbeats 1000000
namespace Wk
open PySem
/-! machines -/
abbrev nD (k : Nat) : D := .int (k : Int)
def natsD (ns : List Nat) : D := .tuple (ns.map nD)
def stD (s : List Nat × List Nat) : D := .tuple [natsD s.1, natsD s.2]
def mD (w : Nat) (sts : List (List Nat × List Nat)) : D := .tuple [nD w, .tuple (sts.map stD)]
structure MOk (w : Nat) (sts : List (List Nat × List Nat)) : Prop where
  w2 : 2 ≤ w
  w5 : w ≤ 5
  m1 : 1 ≤ sts.length
  m12 : sts.length ≤ 12
  outs : ∀ s ∈ sts, s.1.Perm (List.range w)
  nlen : ∀ s ∈ sts, s.2.length = w
  nexts : ∀ s ∈ sts, ∀ k ∈ s.2, k < sts.length
theorem all_nD (ns : List Nat) : (ns.map nD).all isNum = true := by simp [List.all_map, List.all_eq_true, isNum, Function.comp]
theorem fit_nats {n : Nat} {ns : List Nat} (h : ns.length ≤ 100000) : fit (n + 1) (natsD ns) = true := by
  show (decide ((ns.map nD).length ≤ 100000) && (ns.map nD).all (fit n)) = true
  simp [List.all_map, List.all_eq_true, Function.comp, h]
theorem isLong_nats {ns : List Nat} {w : Nat} : isLong (w : Int) (natsD ns) = decide (ns.length = w) := by
  show decide ((((ns.map nD).length : Nat) : Int) = (w : Int)) = _
  simp
  omega
theorem sort_nats {o : List Nat} {w : Nat} (h : o.Perm (List.range w)) : sortD (o.map nD) = some ((List.range w).map nD) := by
  unfold sortD
  have h1 : ((o.map nD).all fun a => (o.map nD).all fun b => PySem.W.alike a b) = true := by
    simp [List.all_map, List.all_eq_true, Function.comp, PySem.W.alike]
  have h2 : ((o.map nD).all noTup) = true := by simp [List.all_map, List.all_eq_true, Function.comp, noTup]
  have h3 : ((o.map nD).all fun d => decide (d.depth ≤ 64)) = true := by simp [List.all_map, List.all_eq_true, Function.comp, PyData.depth]
  rw [if_pos (by rw [h1, h2, h3]; simp)]
  congr 1
  have e : (o.mergeSort fun a b => decide (a ≤ b)).map nD = (o.map nD).mergeSort (PySem.W.dataLe false id) := by
    refine PySem.W.sort_maps nD fun a _ b _ => ?_
    show _ = PySem.W.dataLe false (fun b : Nat => .int (b : Int)) a b
    rw [PySem.W.dataLe_int]
    simp
  rw [← e]
  congr 1
  have t1 : ∀ a b c : Nat, decide (a ≤ b) = true → decide (b ≤ c) = true → decide (a ≤ c) = true := by intro a b c; simp; omega
  have t2 : ∀ a b : Nat, (decide (a ≤ b) || decide (b ≤ a)) = true := by intro a b; simp; omega
  have s1 := List.pairwise_mergeSort (le := fun a b : Nat => decide (a ≤ b)) t1 t2 o
  have s2 : (List.range w).Pairwise fun a b => decide (a ≤ b) = true := by
    have := List.pairwise_lt_range (n := w)
    exact this.imp fun h => by simp; omega
  exact List.Perm.eq_of_pairwise (le := fun a b => decide (a ≤ b) = true) (fun a b _ _ h1 h2 => by simp at h1 h2; omega) s1 s2 ((List.mergeSort_perm o _).trans h)
theorem rng_ok {w : Nat} (h : w < 2 ^ 62) : rngD [.int (w : Int)] = some ((List.range w).map nD) := by
  unfold rngD
  simp
  omega
abbrev SShuf (F : FnV) : Prop := ∀ (w : Nat) (o : List Nat), w ≤ 100000 → o.Perm (List.range w) → F [.fr (nD w), .fr (natsD o)] = .ok (.fr (.bool true)) [.fr (nD w), .fr (natsD o)]
theorem fit_rngL {w : Nat} (hw : w ≤ 100000) : fit 1 (.list ((List.range w).map nD)) = true := by
  show (decide (((List.range w).map nD).length ≤ 100000) && ((List.range w).map nD).all (fit 0)) = true
  rw [Bool.and_eq_true]
  refine ⟨decide_eq_true (by rw [List.length_map, List.length_range]; exact hw), ?_⟩
  simp only [List.all_eq_true, List.mem_map]
  rintro x ⟨k, _, rfl⟩
  exact fit_int
theorem sorted_shuf {w : Nat} {o : List Nat} (h : o.Perm (List.range w)) : biD .sorted [natsD o] = some (.ow ((List.range w).map nD)) := by
  show (sortD (o.map nD)).map Vl.ow = _
  rw [sort_nats h]
  rfl
theorem lim_le {n : Nat} (h : n ≤ 100000) : n ≤ LIM := by unfold LIM; omega
theorem lim62 {n : Nat} (h : n ≤ 100000) : n < 2 ^ 62 := by omega
theorem v_is_shuffle_of {Φ : Fns} (hl : SLong (Φ "is_long")) (hn : SNums (Φ "are_numbers")) : SShuf (fnV Φ 2 0 [0, 1] t_is_shuffle_of) := by
  intro w o hw h
  have ol : o.length = w := by rw [h.length_eq, List.length_range]
  have f1 : fit 1 (natsD o) = true := fit_nats (by rw [ol]; exact hw)
  rw [fnV_eq (by simp)]
  have n1 : areNums (natsD o) = true := all_nD o
  have l1 : isLong (w : Int) (natsD o) = true := by rw [isLong_nats]; exact decide_eq_true ol
  have nd := fit_nd f1
  have e1 := sorted_shuf h
  have s2 := fit_shp (fit_rngL hw) (by decide)
  have q : PyData.eqv (.list ((List.range w).map nD)) (.list ((List.range w).map nD)) = true := eqv_refl (fit_lay (fit_rngL hw)).1
  have r1 : rngD [nD w] = some ((List.range w).map nD) := rng_ok (lim62 hw)
  have lv : ∀ ρ, lstV ((List.range w).map nD) ρ = .ok (.ow ((List.range w).map nD)) ρ := fun ρ => lstV_ok (lim_le (by rw [List.length_map, List.length_range]; exact hw))
  have k1 := hl (natsD o) w nd
  have k2 := hn 0 (natsD o) f1
  rw [l1] at k1
  rw [n1] at k2
  have q2 := eq_D (a := .list ((List.range w).map nD)) (b := .list ((List.range w).map nD)) ⟨s2, s2⟩
  rw [q] at q2
  clear q s2 n1 l1 f1 nd h hw ol
  generalize (List.range w).map nD = R at r1 lv q2 e1 ⊢
  generalize natsD o = N at k1 k2 e1 ⊢
  simp [t_is_shuffle_of, k1, k2, e1, r1, lv, q2]
abbrev SState (F : FnV) : Prop := ∀ (w m : Nat) (s : List Nat × List Nat), w ≤ 100000 → s.1.Perm (List.range w) → s.2.length = w → (∀ k ∈ s.2, k < m) → F [.fr (nD w), .fr (nD m), .fr (stD s)] = .ok (.fr (.bool true)) [.fr (nD w), .fr (nD m), .fr (stD s)]
theorem ix_t0 {a b : D} : ixD (.tuple [a, b]) (.int 0) = some (.fr a) := rfl
theorem ix_t1 {a b : D} : ixD (.tuple [a, b]) (.int 1) = some (.fr b) := rfl
theorem v_is_state_of {Φ : Fns} (hl : SLong (Φ "is_long")) (hs : SShuf (Φ "is_shuffle_of")) (hw : SWithin (Φ "is_within")) : SState (fnV Φ 3 1 [0, 1, 2] t_is_state_of) := by
  intro w m s h0 h1 h2 h3
  rw [fnV_eq (by simp)]
  have hc : ev Φ c_is_state_of_1 [.fr (nD w), .fr (nD m), .fr (stD s), .no] = .ok (.ow ((s.2.map nD).map fun x => .bool (inR 0 ((m : Int) - 1) x))) [.fr (nD w), .fr (nD m), .fr (stD s), .no] := by
    refine ev_comp_map (ρw := [.fr (nD w), .fr (nD m), .fr (stD s), .no]) (ds := s.2.map nD) (by simp [stD, ix_t1, natsD]) (by simp [wipeE]) (by simp [wipeE]) (by simp [backE]) (by simp [LIM]; omega) fun d hd => ?_
    have : notDict d = true := by
      obtain ⟨k, _, rfl⟩ := List.mem_map.mp hd
      exact id rfl
    simp [e_is_state_of_0, hw _ _ _ this, wipeE]
  have a1 : (s.2.map nD).all (inR 0 ((m : Int) - 1)) = true := by
    simp [List.all_map, List.all_eq_true, Function.comp, inR]
    intro k hk
    have := h3 k hk
    omega
  have l2 : isLong 2 (stD s) = true := rfl
  have n0 : notDict (stD s) = true := id rfl
  have n1 : notDict (natsD s.2) = true := id rfl
  have e0 : ixD (stD s) (.int 0) = some (.fr (natsD s.1)) := rfl
  have e1 : ixD (stD s) (.int 1) = some (.fr (natsD s.2)) := rfl
  have hA : biD .all [.list ((s.2.map nD).map fun x => PyData.bool (inR 0 ((m : Int) - 1) x))] = some (.fr (.bool true)) := by
    rw [all_lst, boolsOf_map', Option.map_some, all_id, a1]
  have k1 := hl _ 2 n0
  have k2 := hl _ (w : Int) n1
  rw [l2] at k1
  rw [isLong_nats, decide_eq_true h2] at k2
  have k3 := hs w s.1 h0 h1
  generalize ((s.2.map nD).map fun x => PyData.bool (inR 0 ((m : Int) - 1) x)) = L at *
  generalize stD s = S at *
  generalize natsD s.1 = S1 at *
  generalize natsD s.2 = S2 at *
  simp [t_is_state_of, k1, e0, k3, e1, k2, hc, -all_lst, hA]
abbrev SMach (F : FnV) : Prop := ∀ w sts, MOk w sts → F [.fr (mD w sts)] = .ok (.fr (.bool true)) [.fr (mD w sts)]
theorem v_is_machine_in {Φ : Fns} (hl : SLong (Φ "is_long")) (hw : SWithin (Φ "is_within")) (hs : SState (Φ "is_state_of")) : SMach (fnV Φ 1 2 [0] t_is_machine_in) := by
  intro w sts h
  rw [fnV_eq (by simp)]
  have hc : ev Φ c_is_machine_in_1 [.fr (mD w sts), .fr (nD sts.length), .no] = .ok (.ow ((sts.map stD).map fun x => .bool true)) [.fr (mD w sts), .fr (nD sts.length), .no] := by
    refine ev_comp_map (ρw := [.fr (mD w sts), .fr (nD sts.length), .no]) (ds := sts.map stD) (by simp [mD, ix_t1]) (by simp [wipeE]) (by simp [wipeE]) (by simp [backE]) (by have := h.m12; simp [LIM]; omega) fun d hd => ?_
    obtain ⟨s, hs', rfl⟩ := List.mem_map.mp hd
    have q := hs w sts.length s (by have := h.w5; omega) (h.outs s hs') (h.nlen s hs') (h.nexts s hs')
    have e0 : ixD (mD w sts) (.int 0) = some (.fr (nD w)) := rfl
    simp [e_is_machine_in_0, e0, q, wipeE]
  have l2 : isLong 2 (mD w sts) = true := rfl
  have n0 : notDict (mD w sts) = true := id rfl
  have e0 : ixD (mD w sts) (.int 0) = some (.fr (nD w)) := rfl
  have e1 : ixD (mD w sts) (.int 1) = some (.fr (.tuple (sts.map stD))) := rfl
  have n1 : notDict (nD w) = true := id rfl
  have r1 : inR 2 5 (nD w) = true := by
    have := h.w2; have := h.w5
    simp [inR]
    omega
  have hA : biD .all [.list ((sts.map stD).map fun x => PyData.bool true)] = some (.fr (.bool true)) := by
    rw [all_lst, boolsOf_map' (fun _ => true), Option.map_some, all_id]
    simp
  have := h.m1
  have := h.m12
  have c1 : (1 : Int) ≤ (sts.length : Int) := by omega
  have c2 : (sts.length : Int) ≤ 12 := by omega
  have k1 := hl _ 2 n0
  have k2 := hw _ 2 5 n1
  rw [l2] at k1
  rw [r1] at k2
  have ln : biD .len [.tuple (sts.map stD)] = some (.fr (nD sts.length)) := by
    rw [len_tup, List.length_map]
  generalize ((sts.map stD).map fun x => PyData.bool true) = L at *
  generalize mD w sts = M at *
  simp [t_is_machine_in, k1, e0, k2, e1, -len_tup, ln, hc, c1, c2, -all_lst, hA]
theorem toTup_nats (ns : List Nat) : toTup (natsD ns) = natsD ns := by
  unfold natsD toTup
  rw [toTups_eq, List.map_map]
  congr 1
theorem toTup_m (w : Nat) (sts : List (List Nat × List Nat)) : toTup (mD w sts) = mD w sts := by
  have h : ∀ s : List Nat × List Nat, toTup (stD s) = stD s := fun s => by
    show PyData.tuple (toTups [natsD s.1, natsD s.2]) = _
    rw [toTups_eq]
    simp [toTup_nats, stD]
  show PyData.tuple (toTups [nD w, .tuple (sts.map stD)]) = _
  rw [toTups_eq]
  show PyData.tuple [nD w, .tuple (toTups (sts.map stD))] = _
  rw [toTups_eq, List.map_map]
  unfold mD
  congr 4
  exact List.map_congr_left fun s _ => h s
theorem fit_m {w : Nat} {sts : List (List Nat × List Nat)} (h : MOk w sts) : fit 4 (mD w sts) = true := by
  have hw := h.w5
  have hm := h.m12
  have h1 : ∀ s ∈ sts, fit 2 (stD s) = true := fun s hs => by
    have l1 : s.1.length = w := by rw [(h.outs s hs).length_eq, List.length_range]
    have l2 := h.nlen s hs
    show (decide (([natsD s.1, natsD s.2] : List D).length ≤ 100000) && ([natsD s.1, natsD s.2] : List D).all (fit 1)) = true
    simp [fit_nats (n := 0) (ns := s.1) (by omega), fit_nats (n := 0) (ns := s.2) (by omega)]
  show (decide (([nD w, .tuple (sts.map stD)] : List D).length ≤ 100000) && ([nD w, .tuple (sts.map stD)] : List D).all (fit 3)) = true
  have h2 : fit 3 (.tuple (sts.map stD)) = true := by
    show (decide ((sts.map stD).length ≤ 100000) && (sts.map stD).all (fit 2)) = true
    simp [List.all_map, List.all_eq_true, Function.comp]
    exact ⟨by omega, fun a b hs => h1 (a, b) hs⟩
  simp [h2]
abbrev SSureM (F : FnV) : Prop := ∀ w sts, MOk w sts → F [.fr (mD w sts)] = .ok (.fr (mD w sts)) [.fr (mD w sts)]
theorem v_sure_machine {Φ : Fns} (ht : STup 4 (Φ "tupled")) (hm : SMach (Φ "is_machine_in")) : SSureM (fnV Φ 1 1 [0] t_sure_machine) := by
  intro w sts h
  rw [fnV_eq (by simp)]
  simp [t_sure_machine, ht _ (fit_m h), toTup_m, hm w sts h]
end Wk
end T_LB
section T_LD
set_option maxHeartbeats 1000000
/-! LD: what the laws' own helpers are worth. -/
namespace Wk
open PySem
def t__law_box : T := (.seq (.set 2 (.ite (.cmp .lt (.var 1) (.bi .len (.cons (.var 0) .nil))) (.ix (.var 0) (.var 1)) (.lit (.int 0)))) (.seq (.ret (.lst (.cons (.bin .mul (.bi .abs (.cons (.var 2) .nil)) (.bi .int (.cons (.cmp .ge (.bi .abs (.cons (.var 2) .nil)) (.bin .pow (.lit (.int 10)) (.lit (.int 18)))) .nil))) (.cons (.bin .add (.bin .add (.bin .mod (.bi .int (.cons (.var 2) .nil)) (.lit (.int 2305843009213693951))) (.bin .mul (.lit (.int 39373)) (.var 1))) (.lit (.int 251510))) (.cons (.lit (.int 0)) .nil))))) .skip))
def t__law_take : T := (.seq (.ife (.cons (.cmp .gt (.ix (.var 0) (.lit (.int 0))) (.lit (.int 0))) .nil) (.seq (.set 5 (.bin .mod (.bi .int (.cons (.ix (.var 0) (.lit (.int 0))) .nil)) (.var 1))) (.seq (.setIx 0 (.lit (.int 0)) (.bin .fdiv (.ix (.var 0) (.lit (.int 0))) (.var 1))) (.seq (.ret (.var 5)) .skip))) .skip) (.seq (.setIx 0 (.lit (.int 2)) (.bin .add (.ix (.var 0) (.lit (.int 2))) (.lit (.int 1)))) (.seq (.set 2 (.bin .mod (.bi .int (.cons (.bin .mul (.bin .add (.ix (.var 0) (.lit (.int 1))) (.bin .mul (.lit (.int 48271)) (.ix (.var 0) (.lit (.int 2))))) (.bin .add (.lit (.int 39373)) (.ix (.var 0) (.lit (.int 2))))) .nil)) (.lit (.int 2147483647)))) (.seq (.set 3 (.bin .add (.bin .mod (.bi .int (.cons (.var 2) .nil)) (.lit (.int 40009))) (.lit (.int 7)))) (.seq (.set 4 (.bin .mod (.bi .int (.cons (.bin .mul (.bin .add (.bin .add (.var 2) (.ix (.var 0) (.lit (.int 2)))) (.bin .fdiv (.ix (.var 0) (.lit (.int 1))) (.lit (.int 1000003)))) (.var 3)) .nil)) (.lit (.int 2147483629)))) (.seq (.ret (.bin .mod (.bi .int (.cons (.bin .fdiv (.bin .mod (.bi .int (.cons (.bin .add (.bin .mul (.var 4) (.lit (.int 48271))) (.var 2)) .nil)) (.lit (.int 2147483587))) (.lit (.int 64))) .nil)) (.var 1))) .skip))))))
def b__law_cells_0 : T := (.seq (.set 5 (.bin .mod (.bi .int (.cons (.var 3) .nil)) (.var 1))) (.seq (.setIx 2 (.var 5) (.bin .add (.ix (.var 2) (.var 5)) (.bin .mul (.var 4) (.bin .add (.var 3) (.lit (.int 2)))))) .skip))
def l__law_cells_1 : T := (.forr (.tp (.cons (.nm 3) (.cons (.nm 4) .nil))) (.enum (.sl (.var 0) (.cons (.var 1) .nil) (.cons (.lit (.int 63)) .nil))) b__law_cells_0)
def t__law_cells : T := (.seq (.set 2 (.or (.bi .list (.cons (.sl (.var 0) .nil (.cons (.var 1) .nil)) .nil)) (.lst (.cons (.lit (.int 0)) .nil)))) (.seq l__law_cells_1 (.seq (.ret (.var 2)) .skip)))
def t__law_of : T := (.seq (.ret (.ix (.var 1) (.call "_law_take" (.cons (.var 0) (.cons (.bi .len (.cons (.var 1) .nil)) .nil))))) .skip)
def e__law_lists_0 : T := (.call "_law_lists" (.cons (.var 1) .nil))
def c__law_lists_1 : T := (.comp (.nm 1) [1] (.dat (.var 0)) .nil e__law_lists_0)
def t__law_lists : T := (.seq (.ret (.ite (.isi [.tlist, .ttuple] (.var 0)) c__law_lists_1 (.var 0))) .skip)
def e__law_same_0 : T := (.call "_law_same" (.cons (.var 2) (.cons (.var 3) .nil)))
def c__law_same_1 : T := (.comp (.tp (.cons (.nm 2) (.cons (.nm 3) .nil))) [2, 3] (.zip (.var 0) (.var 1)) .nil e__law_same_0)
def t__law_same : T := (.seq (.ife (.cons (.isi [.tlist, .ttuple] (.var 1)) .nil) (.seq (.ife (.cons (.or (.cmp .ne (.isi [.tlist] (.var 0)) (.isi [.tlist] (.var 1))) (.cmp .ne (.isi [.ttuple] (.var 0)) (.isi [.ttuple] (.var 1)))) .nil) (.seq (.ret (.lit (.bool false))) .skip) .skip) (.seq (.ret (.and (.cmp .eq (.bi .len (.cons (.var 0) .nil)) (.bi .len (.cons (.var 1) .nil))) (.bi .all (.cons c__law_same_1 .nil)))) .skip)) .skip) (.seq (.ife (.cons (.cmp .isN (.var 1) (.lit .none)) .nil) (.seq (.ret (.cmp .isN (.var 0) (.lit .none))) .skip) .skip) (.seq (.ife (.cons (.isi [.tbool, .tstr] (.var 1)) .nil) (.seq (.ret (.and (.cmp .eq (.isi [.tbool] (.var 0)) (.isi [.tbool] (.var 1))) (.and (.cmp .eq (.isi [.tstr] (.var 0)) (.isi [.tstr] (.var 1))) (.cmp .eq (.var 0) (.var 1))))) .skip) .skip) (.seq (.ret (.and (.isi [.tint] (.var 0)) (.and (.not (.isi [.tbool] (.var 0))) (.cmp .eq (.var 0) (.var 1))))) .skip))))
theorem ixOf_nat {n k : Nat} (h : k < n) : ixOf n (k : Int) = some k := by
  unfold ixOf
  rw [if_pos (by omega), if_pos (by omega)]
  rfl
theorem ixl_nat {l : List D} {k : Nat} {d : D} (h : l[k]? = some d) : ixD (.list l) (.int (k : Int)) = some (.fr d) := by
  have hk : k < l.length := (List.getElem?_eq_some_iff.mp h).1
  show ((ixOf l.length (k : Int)).bind fun j => l[j]?.map Vl.fr) = _
  rw [ixOf_nat hk]
  show l[k]?.map Vl.fr = _
  rw [h]
  rfl
theorem ixt_nat {l : List D} {k : Nat} {d : D} (h : l[k]? = some d) : ixD (.tuple l) (.int (k : Int)) = some (.fr d) := by
  have hk : k < l.length := (List.getElem?_eq_some_iff.mp h).1
  show ((ixOf l.length (k : Int)).bind fun j => l[j]?.map Vl.fr) = _
  rw [ixOf_nat hk]
  show l[k]?.map Vl.fr = _
  rw [h]
  rfl
@[simp] theorem ixl0 {a : D} {l : List D} : ixD (.list (a :: l)) (.int 0) = some (.fr a) := ixl_nat (k := 0) rfl
@[simp] theorem ixt0 {a : D} {l : List D} : ixD (.tuple (a :: l)) (.int 0) = some (.fr a) := ixt_nat (k := 0) rfl
@[simp] theorem ixl1 {a b : D} {l : List D} : ixD (.list (a :: b :: l)) (.int 1) = some (.fr b) := ixl_nat (k := 1) rfl
@[simp] theorem ixt1 {a b : D} {l : List D} : ixD (.tuple (a :: b :: l)) (.int 1) = some (.fr b) := ixt_nat (k := 1) rfl
@[simp] theorem ixl2 {a b c : D} {l : List D} : ixD (.list (a :: b :: c :: l)) (.int 2) = some (.fr c) := ixl_nat (k := 2) rfl
@[simp] theorem set3_0 {i : Nat} {d a b c : D} {ρ : Env} : setIxO i d (some (.int 0)) (some (.bx [a, b, c])) ρ = .ok .nx (ρ.set i (.bx [d, b, c])) := setIxO_ok (j := 0) (by simp [ixOf])
@[simp] theorem set3_2 {i : Nat} {d a b c : D} {ρ : Env} : setIxO i d (some (.int 2)) (some (.bx [a, b, c])) ρ = .ok .nx (ρ.set i (.bx [a, b, d])) := setIxO_ok (j := 2) (by simp [ixOf])
theorem small_of {i : Int} (h1 : -1000000000000000000 < i) (h2 : i < 1000000000000000000) : small i = true := by
  unfold small
  simp
  omega
theorem floop_inv {tg : Tg} {b : Env → Out Fl} {I : Env → Prop} : ∀ {ds : List D} {ρ : Env}, I ρ → (∀ d ∈ ds, ∀ ρ, I ρ → ∃ ρa, asg tg d ρ = some ρa ∧ ∃ ρb, b ρa = .ok .nx ρb ∧ I ρb) → ∃ ρ', floop tg b ds ρ = .ok .nx ρ' ∧ I ρ'
  | [], ρ, h, _ => ⟨ρ, by unfold floop; rfl, h⟩
  | d :: ds, ρ, h, k => by
    obtain ⟨ρa, h1, ρb, h2, h3⟩ := k d List.mem_cons_self ρ h
    obtain ⟨ρ', h4, h5⟩ := floop_inv h3 fun x hx => k x (List.mem_cons_of_mem _ hx)
    refine ⟨ρ', ?_, h5⟩
    unfold floop
    rw [h1, Out.ofO_some, Out.bind_ok, h2, Out.bind_ok]
    exact h4
theorem cloop_inv {own : List Nat} {tg : Tg} {c : Env → Out Bool} {e : Env → Out D} {I : Env → Prop} {P : D → Prop} : ∀ {ds acc : List D} {ρ : Env}, I ρ → (∀ d ∈ ds, ∀ ρ, I ρ → ∃ ρa, asg tg d (wipeE ρ own) = some ρa ∧ c ρa = .ok true ρa ∧ ∃ y ρb, e ρa = .ok y ρb ∧ P y ∧ I (wipeE ρb own)) → acc.length + ds.length ≤ LIM →
    ∃ ys ρ', cloop own tg c e ds acc ρ = .ok (acc ++ ys) ρ' ∧ ys.length = ds.length ∧ (∀ y ∈ ys, P y) ∧ I ρ'
  | [], acc, ρ, h, _, _ => ⟨[], ρ, by unfold cloop; simp, rfl, by simp, h⟩
  | d :: ds, acc, ρ, h, k, hl => by
    obtain ⟨ρa, h1, h2, y, ρb, h3, h4, h5⟩ := k d List.mem_cons_self ρ h
    rw [List.length_cons] at hl
    obtain ⟨ys, ρ', h6, h7, h8, h9⟩ := cloop_inv (acc := acc ++ [y]) h5 (fun x hx => k x (List.mem_cons_of_mem _ hx)) (by rw [List.length_append]; simp; omega)
    refine ⟨y :: ys, ρ', ?_, by simp [h7], ?_, h9⟩
    · unfold cloop
      rw [h1, Out.ofO_some, Out.bind_ok, h2, Out.bind_ok, if_pos rfl, h3, Out.bind_ok, if_pos (by omega), h6]
      simp
    · intro z hz
      rcases List.mem_cons.mp hz with rfl | q
      · exact h4
      · exact h8 z q
theorem ev_comp_inv {Φ : Fns} {tg : Tg} {own : List Nat} {it c e : T} {ρ ρ1 : Env} {ds : List D} {I : Env → Prop} {P : D → Prop} (hi : evi Φ it ρ = .ok ds ρ1) (h0 : I (wipeE ρ1 own)) (hl : ds.length ≤ LIM)
    (h : ∀ d ∈ ds, ∀ ρ, I ρ → ∃ ρa, asg tg d (wipeE ρ own) = some ρa ∧ evc Φ c ρa = .ok true ρa ∧ ∃ y ρb, ((ev Φ e ρa).bind fun v r1 => v.fz r1) = .ok y ρb ∧ P y ∧ I (wipeE ρb own)) :
    ∃ ys ρ', ev Φ (.comp tg own it c e) ρ = .ok (.ow ys) (backE ρ1 ρ' own) ∧ ys.length = ds.length ∧ (∀ y ∈ ys, P y) ∧ I ρ' := by
  obtain ⟨ys, ρ', h1, h2, h3, h4⟩ := cloop_inv (own := own) (tg := tg) (c := fun r => evc Φ c r) (e := fun r => (ev Φ e r).bind fun v r1 => v.fz r1) (acc := []) (P := P) h0 h (by simpa using hl)
  refine ⟨ys, ρ', ?_, h2, h3, h4⟩
  rw [ev_comp, hi]
  simp only [Out.bind_ok]
  rw [h1]
  rfl
/-! the box of draws -/
def Tin (s : Sl) (b : Nat) : Prop := ∃ x y z : Int, s = .bx [.int x, .int y, .int z] ∧ 0 ≤ z ∧ z ≤ b
abbrev STake (F : FnV) : Prop := ∀ (n : Int) (b : Nat) (s : Sl), Tin s b → 0 < n → n < 1073741824 → b < 1000000000 → ∃ (r : Int) (s' : Sl), 0 ≤ r ∧ r < n ∧ Tin s' (b + 1) ∧ F [s, .fr (.int n)] = .ok (.fr (.int r)) [s', .fr (.int n)]
theorem v_law_take {Φ : Fns} : STake (fnV Φ 2 4 [0, 1] t__law_take) := by
  intro n b s hs hn hn2 hb
  obtain ⟨x, y, z, rfl, hz, hzb⟩ := hs
  by_cases hx : 0 < x
  · refine ⟨x % n, .bx [.int (x / n), .int y, .int z], Int.emod_nonneg _ (by omega), Int.emod_lt_of_pos _ hn, ⟨_, _, _, rfl, hz, by omega⟩, ?_⟩
    rw [fnV_eq (by simp)]
    simp [t__law_take, hx, mod_int hn, fdiv_int ⟨hn, hn2⟩]
  · obtain ⟨z', hz'⟩ : ∃ z', z' = z + 1 := ⟨_, rfl⟩
    obtain ⟨o, ho⟩ : ∃ o, o = ((y + 48271 * z') * (39373 + z')) % 2147483647 := ⟨_, rfl⟩
    obtain ⟨w, hw⟩ : ∃ w, w = o % 40009 + 7 := ⟨_, rfl⟩
    obtain ⟨t, ht⟩ : ∃ t, t = ((o + z' + y / 1000003) * w) % 2147483629 := ⟨_, rfl⟩
    have s1 : small z' = true := small_of (by omega) (by omega)
    have s2 : small (39373 + z') = true := small_of (by omega) (by omega)
    have w1 := Int.emod_nonneg o (show (40009 : Int) ≠ 0 by decide)
    have w2 := Int.emod_lt_of_pos o (show (0 : Int) < 40009 by decide)
    have s3 : small w = true := small_of (by omega) (by omega)
    have s4 : small 48271 = true := small_of (by omega) (by omega)
    refine ⟨((t * 48271 + o) % 2147483587 / 64) % n, .bx [.int x, .int y, .int z'], Int.emod_nonneg _ (by omega), Int.emod_lt_of_pos _ hn, ⟨_, _, _, rfl, by omega, by omega⟩, ?_⟩
    rw [fnV_eq (by simp)]
    simp [t__law_take, hx, ← hz']
    rw [mul_int (i := 48271) (j := z') (by rw [s4]; rfl)]
    simp
    rw [mul_int (j := 39373 + z') (by rw [s2]; simp)]
    simp
    rw [mod_int (by decide)]
    simp [← ho]
    rw [mod_int (by decide)]
    simp [← hw]
    rw [fdiv_int (by decide)]
    simp
    rw [mul_int (j := w) (by rw [s3]; simp)]
    simp
    rw [mod_int (by decide)]
    simp [← ht]
    rw [mul_int (j := 48271) (by rw [s4]; simp)]
    simp
    rw [mod_int (by decide)]
    simp
    rw [fdiv_int (by decide)]
    simp
    rw [mod_int hn]
    simp
abbrev zs (ns : List Int) : List D := ns.map .int
abbrev SBox (F : FnV) : Prop := ∀ (cs : List Int) (k : Nat), k < cs.length → k < 1000 → ∃ a b : Int, F [.fr (.list (zs cs)), .fr (nD k)] = .ok (.ow [.int a, .int b, .int 0]) [.fr (.list (zs cs)), .fr (nD k)]
theorem small_b2i (b : Bool) : small (b2i b) = true := by cases b <;> decide
theorem v_law_box {Φ : Fns} : SBox (fnV Φ 2 1 [0, 1] t__law_box) := by
  intro cs k hk hk2
  obtain ⟨c, hc⟩ : ∃ c, cs[k]? = some c := ⟨_, List.getElem?_eq_getElem hk⟩
  have ix : ixD (.list (zs cs)) (nD k) = some (.fr (.int c)) := ixl_nat (by rw [List.getElem?_map, hc]; rfl)
  have lt : (k : Int) < (cs.length : Int) := by omega
  have s1 : small 39373 = true := by decide
  refine ⟨(if c < 0 then -c else c) * b2i (decide (10 ^ 18 ≤ (if c < 0 then -c else c))), c % 2305843009213693951 + 39373 * (k : Int) + 251510, ?_⟩
  rw [fnV_eq (by simp)]
  generalize hL : zs cs = L at *
  have ll : (L.length : Int) = (cs.length : Int) := by rw [← hL]; simp
  simp [t__law_box, ll, lt, ix]
  rw [pow_int (by decide)]
  simp
  rw [mul_int (by rw [small_b2i]; simp)]
  simp
  rw [mod_int (by decide)]
  simp
  rw [mul_int (by rw [s1]; simp)]
  simp
abbrev SCells (m : Nat) (F : FnV) : Prop := ∀ (ns : List Int), ns.length ≤ 63 → ∃ cs : List Int, 1 ≤ cs.length ∧ F [.scr ns, .fr (nD m)] = .ok (.ow (zs cs)) [.scr ns, .fr (nD m)]
theorem cut_take {α : Type} {xs : List α} {k : Nat} : cutL xs none (some (k : Int)) = xs.take k := by
  unfold cutL cutAt
  rw [HT.sIx_none, HT.sIx_nat, List.drop_zero, Nat.sub_zero]
  exact (List.take_eq_take_min).symm
theorem cut_drop {α : Type} {xs : List α} {k : Nat} : cutL xs (some (k : Int)) none = xs.drop k := by
  unfold cutL cutAt
  rw [HT.sIx_none, HT.sIx_nat]
  rw [List.take_of_length_le (by rw [List.length_drop]; omega)]
  rcases Nat.le_total k xs.length with h | h
  · rw [Nat.min_eq_left h]
  · rw [Nat.min_eq_right h, List.drop_of_length_le (Nat.le_refl _), List.drop_of_length_le h]
theorem cut_mid {α : Type} {xs : List α} {a b : Nat} (h1 : a ≤ b) (h2 : b ≤ xs.length) : cutL xs (some (a : Int)) (some (b : Int)) = (xs.drop a).take (b - a) := by
  unfold cutL cutAt
  rw [HT.sIx_nat, HT.sIx_nat, Nat.min_eq_left h2, Nat.min_eq_left (Nat.le_trans h1 h2)]
theorem cut_last {α : Type} {xs : List α} : cutL xs (some (-1)) none = xs.drop (xs.length - 1) := by
  unfold cutL cutAt
  rw [HT.sIx_none]
  have e : HT.sIx xs.length 0 (some (-1)) = xs.length - 1 := by
    show (if (-1 : Int) < 0 then ((-1 : Int) + (xs.length : Int)).toNat else min (-1 : Int).toNat xs.length) = _
    rw [if_pos (by decide)]
    omega
  rw [e, List.take_of_length_le (by rw [List.length_drop]; omega)]
theorem cut_init {α : Type} {xs : List α} : cutL xs none (some (-1)) = xs.take (xs.length - 1) := by
  unfold cutL cutAt
  rw [HT.sIx_none]
  have e : HT.sIx xs.length xs.length (some (-1)) = xs.length - 1 := by
    show (if (-1 : Int) < 0 then ((-1 : Int) + (xs.length : Int)).toNat else min (-1 : Int).toNat xs.length) = _
    rw [if_pos (by decide)]
    omega
  rw [e, List.drop_zero, Nat.sub_zero]
theorem cut_any {α : Type} {xs : List α} {a b : Nat} : ∃ ys, cutL xs (some (a : Int)) (some (b : Int)) = ys ∧ ys.length ≤ xs.length - a ∧ ∀ y ∈ ys, y ∈ xs := by
  refine ⟨_, rfl, ?_, ?_⟩
  · unfold cutL cutAt
    rw [List.length_take, List.length_drop, HT.sIx_nat, HT.sIx_nat]
    omega
  · intro y hy
    unfold cutL at hy
    exact List.mem_of_mem_drop (List.mem_of_mem_take hy)
theorem enum_mem {xs : List D} {d : D} (h : d ∈ enumD xs) : ∃ (k : Nat) (x : D), k < xs.length ∧ x ∈ xs ∧ d = .tuple [nD k, x] := by
  unfold enumD at h
  obtain ⟨k, e⟩ := List.mem_iff_getElem?.mp h
  rw [List.getElem?_zipWith] at e
  cases h1 : (List.range xs.length)[k]? with
  | none => rw [h1] at e; simp at e
  | some q =>
    cases h2 : xs[k]? with
    | none => rw [h1, h2] at e; simp at e
    | some x =>
      rw [h1, h2] at e
      have hl : k < xs.length := (List.getElem?_eq_some_iff.mp h2).1
      rw [List.getElem?_range hl] at h1
      cases h1
      simp at e
      exact ⟨k, x, hl, List.mem_of_getElem? h2, e.symm⟩
theorem v_law_cells {Φ : Fns} {m : Nat} (hm : 1 ≤ m) (hm2 : m ≤ 1000) : SCells m (fnV Φ 2 4 [0, 1] t__law_cells) := by
  intro ns hn
  obtain ⟨c0, hc0, hl0⟩ : ∃ c0 : List Int, (if (ns.take m).isEmpty then [0] else ns.take m) = c0 ∧ 1 ≤ c0.length := by
    refine ⟨_, rfl, ?_⟩
    split
    · exact Nat.le_refl 1
    · rename_i h
      exact List.length_pos_iff.mpr (by simpa using h)
  have e1 : cutL (zs ns) none (some (m : Int)) = zs (ns.take m) := by rw [cut_take]; exact List.map_take.symm
  obtain ⟨ys, e2, l2, m2⟩ := cut_any (xs := zs ns) (a := m) (b := 63)
  have start : ∀ ρ : Env, ρ[0]? = some (.scr ns) → ρ[1]? = some (.fr (nD m)) → ev Φ (.or (.bi .list (.cons (.sl (.var 0) .nil (.cons (.var 1) .nil)) .nil)) (.lst (.cons (.lit (.int 0)) .nil))) ρ = .ok (.ow (zs c0)) ρ := by
    intro ρ r0 r1
    simp [r0, r1, e1]
    have m0 : m ≠ 0 := by omega
    by_cases q : ns = []
    · subst q
      have : c0 = [0] := by rw [← hc0]; simp
      simp [this]
    · have q' : ¬ (ns.take m).isEmpty = true := by simp [q, m0]
      rw [if_neg q'] at hc0
      rw [← hc0]
      simp [q, m0]
  have loop : ∃ ρ', ex Φ l__law_cells_1 [.scr ns, .fr (nD m), .bx (zs c0), .no, .no, .no] = .ok .nx ρ' ∧ ∃ cs s3 s4 s5, 1 ≤ cs.length ∧ ρ' = [.scr ns, .fr (nD m), .bx (zs cs), s3, s4, s5] := by
    have en : evi Φ (.enum (.sl (.var 0) (.cons (.var 1) .nil) (.cons (.lit (.int 63)) .nil))) [.scr ns, .fr (nD m), .bx (zs c0), .no, .no, .no] = .ok (enumD ys) [.scr ns, .fr (nD m), .bx (zs c0), .no, .no, .no] := by
      have e2' : cutL (zs ns) (some (m : Int)) (some 63) = ys := e2
      simp [e2', enumL]
    unfold l__law_cells_1
    rw [ex_forr, en, Out.bind_ok]
    obtain ⟨ρ', h1, h2⟩ := floop_inv (tg := .tp (.cons (.nm 3) (.cons (.nm 4) .nil))) (b := ex Φ b__law_cells_0) (I := fun ρ => ∃ (cs : List Int) (s3 s4 s5 : Sl), cs.length = c0.length ∧ ρ = [.scr ns, .fr (nD m), .bx (zs cs), s3, s4, s5]) (ds := enumD ys) (ρ := [.scr ns, .fr (nD m), .bx (zs c0), .no, .no, .no]) ⟨c0, _, _, _, rfl, rfl⟩ (by
      rintro d hd ρ ⟨cs, s3, s4, s5, hl, rfl⟩
      obtain ⟨k, x, hk, hx, rfl⟩ := enum_mem hd
      have hx2 := m2 x hx
      obtain ⟨b, _, rfl⟩ := List.mem_map.mp hx2
      refine ⟨[.scr ns, .fr (nD m), .bx (zs cs), .fr (nD k), .fr (.int b), s5], by simp, ?_⟩
      -- there are so many cells
      have hlm : c0.length = m := by
        have z1 : ys.length ≤ ns.length - m := by simpa using l2
        have z2 : m < ns.length := by omega
        have z3 : ns.take m ≠ [] := by
          rw [← List.length_pos_iff, List.length_take]; omega
        rw [if_neg (by simpa using z3)] at hc0
        rw [← hc0, List.length_take]
        omega
      have kl : k < 63 := by have := l2; simp at this; omega
      have km : k % m < cs.length := by rw [hl, hlm]; exact Nat.mod_lt _ hm
      obtain ⟨v, hv⟩ : ∃ v, cs[k % m]? = some v := ⟨_, List.getElem?_eq_getElem km⟩
      have ix : ixD (.list (zs cs)) (nD (k % m)) = some (.fr (.int v)) := ixl_nat (by rw [List.getElem?_map, hv]; rfl)
      have e3 : ((k : Int) % (m : Int)) = ((k % m : Nat) : Int) := by omega
      have s2 : small ((k : Int) + 2) = true := small_of (by omega) (by omega)
      rw [show nD (k % m) = .int ((k : Int) % (m : Int)) by rw [e3]] at ix
      have sx : ∀ i d ρ, setIxO i d (some (.int ((k : Int) % (m : Int)))) (some (.bx (zs cs))) ρ = .ok .nx (ρ.set i (.bx ((zs cs).set (k % m) d))) := fun i d ρ => setIxO_ok (by rw [e3]; exact ixOf_nat (by simpa using km))
      refine ⟨[.scr ns, .fr (nD m), .bx (zs (cs.set (k % m) (v + b * ((k : Int) + 2)))), .fr (nD k), .fr (.int b), .fr (.int ((k : Int) % (m : Int)))], ?_, cs.set (k % m) (v + b * ((k : Int) + 2)), _, _, _, by rw [List.length_set]; exact hl, rfl⟩
      have mz : zs (cs.set (k % m) (v + b * ((k : Int) + 2))) = (zs cs).set (k % m) (.int (v + b * ((k : Int) + 2))) := List.map_set
      rw [mz]
      generalize zs cs = C at *
      simp [b__law_cells_0]
      rw [mod_int (by omega)]
      simp [ix]
      rw [mul_int (by rw [s2]; simp)]
      simp [sx])
    obtain ⟨cs, s3, s4, s5, hl, rfl⟩ := h2
    exact ⟨_, h1, cs, s3, s4, s5, by omega, rfl⟩
  obtain ⟨ρ', h1, cs, s3, s4, s5, h2, rfl⟩ := loop
  refine ⟨cs, h2, ?_⟩
  rw [fnV_eq (by simp)]
  have st := start [.scr ns, .fr (nD m), .no, .no, .no, .no] rfl rfl
  simp only [t__law_cells, ex_seq, ex_set, List.cons_append, List.nil_append, List.replicate]
  rw [st]
  simp [h1]
abbrev SOf (F : FnV) : Prop := ∀ (b : Nat) (s : Sl) (gs : List D), Tin s b → 1 ≤ gs.length → gs.length ≤ 100000 → b < 1000000000 → ∃ (g : D) (s' : Sl), g ∈ gs ∧ Tin s' (b + 1) ∧ F [s, .fr (.list gs)] = .ok (.fr g) [s', .fr (.list gs)]
theorem tin_bx {s : Sl} {b : Nat} (h : Tin s b) : ∃ ds, s = .bx ds := let ⟨_, _, _, e, _⟩ := h; ⟨_, e⟩
theorem v_law_of {Φ : Fns} (ht : STake (Φ "_law_take")) : SOf (fnV Φ 2 0 [0, 1] t__law_of) := by
  intro b s gs hs h1 h2 hb
  obtain ⟨r, s', r0, r1, hs', e⟩ := ht gs.length b s hs (by omega) (by omega) hb
  obtain ⟨ds, rfl⟩ := tin_bx hs
  obtain ⟨ds', rfl⟩ := tin_bx hs'
  obtain ⟨k, rfl⟩ := Int.eq_ofNat_of_zero_le r0
  have hk : k < gs.length := by omega
  obtain ⟨g, hg⟩ : ∃ g, gs[k]? = some g := ⟨_, List.getElem?_eq_getElem hk⟩
  refine ⟨g, .bx ds', List.mem_of_getElem? hg, hs', ?_⟩
  have ix := ixl_nat hg
  rw [fnV_eq (by simp)]
  have c := callV_bf (F := Φ "_law_take") (i := 0) (ρ := [.bx ds, .fr (.list gs)]) (a := .int gs.length) (s := .bx ds) rfl
  rw [e] at c
  simp [t__law_of, c, ix]
mutual
def toLst : D → D
  | .list xs => .list (toLsts xs)
  | .tuple xs => .list (toLsts xs)
  | d => d
def toLsts : List D → List D
  | [] => []
  | x :: xs => toLst x :: toLsts xs
end
theorem toLsts_eq : ∀ xs : List D, toLsts xs = xs.map toLst
  | [] => by unfold toLsts; rfl
  | x :: xs => by unfold toLsts; rw [toLsts_eq xs]; rfl
def seqV (d : D) : Bool := match d with
  | .list _ => true
  | .tuple _ => true
  | _ => false
def lstR (d : D) : Vl := match toLst d with
  | .list xs => .ow xs
  | d => .fr d
abbrev SLst (n : Nat) (F : FnV) : Prop := ∀ d, fit n d = true → F [.fr d] = .ok (lstR d) [.fr d]
theorem lstR_fz (d : D) (ρ : Env) : (lstR d).fz ρ = .ok (toLst d) ρ := by
  unfold lstR
  split
  · rename_i xs e; rw [e]; rfl
  · rfl
theorem v_law_lists {Φ : Fns} {n : Nat} (ih : SLst n (Φ "_law_lists")) : SLst (n + 1) (fnV Φ 1 1 [0] t__law_lists) := by
  intro d h
  have nd := fit_nd h
  rw [fnV_eq (by simp)]
  have go : ∀ d xs, (d = .list xs ∨ d = .tuple xs) → fit (n + 1) d = true → ev Φ c__law_lists_1 [.fr d, .no] = .ok (.ow (xs.map toLst)) [.fr d, .no] := by
    intro d xs hd h
    have hh : xs.length ≤ 100000 ∧ ∀ x ∈ xs, fit n x = true := by
      rcases hd with rfl | rfl
      · exact fit_list h
      · exact fit_tuple h
    refine ev_comp_map (ρw := [.fr d, .no]) (ds := xs) (by rcases hd with rfl | rfl <;> simp) (by simp [wipeE]) (by simp [wipeE]) (by simp [backE]) (lim_le hh.1) fun x hx => ?_
    have e := ih x (hh.2 x hx)
    refine ⟨[.fr d, .fr x], by simp [wipeE], by simp, [.fr d, .fr x], ?_, by simp [wipeE]⟩
    simp [e__law_lists_0, e]
    have z := lstR_fz x [.fr d, .fr x]
    unfold lstR at z ⊢
    split <;> rename_i q <;> simp_all
  cases d with
  | tuple xs =>
    have e : lstR (.tuple xs) = .ow (xs.map toLst) := by unfold lstR toLst; rw [toLsts_eq]
    rw [e]
    simp [t__law_lists, go _ xs (.inr rfl) h]
  | list xs =>
    have e : lstR (.list xs) = .ow (xs.map toLst) := by unfold lstR toLst; rw [toLsts_eq]
    rw [e]
    simp [t__law_lists, go _ xs (.inl rfl) h]
  | dict _ => cases nd
  | _ => simp [t__law_lists, lstR, toLst]
theorem v_law_lists0 {Φ : Fns} : SLst 0 (fnV Φ 1 1 [0] t__law_lists) := by
  intro d h
  rw [fnV_eq (by simp)]
  cases d <;> first | (cases h; done) | simp [t__law_lists, lstR, toLst]
/-- the same is the same -/
abbrev SSame (n : Nat) (F : FnV) : Prop := ∀ d, fit n d = true → F [.fr d, .fr d] = .ok (.fr (.bool true)) [.fr d, .fr d]
theorem zip_self (xs : List D) : xs.zipWith (fun x y => PyData.tuple [x, y]) xs = xs.map fun x => .tuple [x, x] := by
  induction xs with
  | nil => rfl
  | cons x xs ih => simp
theorem same_row {Φ : Fns} {n : Nat} (ih : SSame n (Φ "_law_same")) {d : D} {xs : List D} (hd : d = .list xs ∨ d = .tuple xs) (hh : xs.length ≤ 100000 ∧ ∀ x ∈ xs, fit n x = true) : ev Φ c__law_same_1 [.fr d, .fr d, .no, .no] = .ok (.ow ((xs.map fun x => PyData.tuple [x, x]).map fun _ => .bool true)) [.fr d, .fr d, .no, .no] := by
  refine ev_comp_map (ρw := [.fr d, .fr d, .no, .no]) (ds := xs.map fun x => PyData.tuple [x, x]) ?_ (by simp [wipeE]) (by simp [wipeE]) (by simp [backE]) (lim_le (by rw [List.length_map]; exact hh.1)) fun y hy => ?_
  · rcases hd with rfl | rfl <;> simp [zipD, zip_self]
  · obtain ⟨x, hx, rfl⟩ := List.mem_map.mp hy
    have e := ih x (hh.2 x hx)
    refine ⟨[.fr d, .fr d, .fr x, .fr x], by simp [wipeE], by simp, [.fr d, .fr d, .fr x, .fr x], ?_, by simp [wipeE]⟩
    simp [e__law_same_0, e]
theorem all_true (xs : List D) : biD .all [.list ((xs.map fun x => PyData.tuple [x, x]).map fun _ => .bool true)] = some (.fr (.bool true)) := by
  rw [all_lst, boolsOf_map' (fun _ => true), Option.map_some, all_id]
  simp
theorem v_law_same {Φ : Fns} {n : Nat} (hn : n ≤ 60) (ih : SSame n (Φ "_law_same")) : SSame (n + 1) (fnV Φ 2 2 [0, 1] t__law_same) := by
  intro d h
  have nd := fit_nd h
  rw [fnV_eq (by simp)]
  cases d with
  | tuple xs =>
    have r := same_row ih (.inr rfl) (fit_tuple h)
    have a := all_true xs
    generalize ((xs.map fun x => PyData.tuple [x, x]).map fun _ => PyData.bool true) = L at r a
    simp [t__law_same, r, -all_lst, a]
  | list xs =>
    have r := same_row ih (.inl rfl) (fit_list h)
    have a := all_true xs
    generalize ((xs.map fun x => PyData.tuple [x, x]).map fun _ => PyData.bool true) = L at r a
    simp [t__law_same, r, -all_lst, a]
  | dict _ => cases nd
  | str x =>
    have s := fit_shp h (by omega)
    have q : PyData.eqv (.str x) (.str x) = true := eqv_refl (fit_lay h).1
    have c := eq_D (a := .str x) (b := .str x) ⟨s, s⟩
    rw [q] at c
    simp [t__law_same, c]
  | _ => simp [t__law_same]
theorem v_law_same0 {Φ : Fns} : SSame 0 (fnV Φ 2 2 [0, 1] t__law_same) := by
  intro d h
  rw [fnV_eq (by simp)]
  cases d with
  | tuple _ => cases h
  | list _ => cases h
  | dict _ => cases h
  | str x =>
    have s := fit_shp h (by decide)
    have q : PyData.eqv (.str x) (.str x) = true := eqv_refl (fit_lay h).1
    have c := eq_D (a := .str x) (b := .str x) ⟨s, s⟩
    rw [q] at c
    simp [t__law_same, c]
  | _ => simp [t__law_same]
/-- .. where the first one is a list of one's own -/
theorem v_law_sameB {Φ : Fns} {n : Nat} (ih : SSame n (Φ "_law_same")) {xs : List D} (h : fit (n + 1) (.list xs) = true) : fnV Φ 2 2 [0, 1] t__law_same [.bx xs, .fr (.list xs)] = .ok (.fr (.bool true)) [.fr (.list xs), .fr (.list xs)] := by
  rw [fnV_eq (by simp)]
  have hh := fit_list h
  have r : ev Φ c__law_same_1 [.bx xs, .fr (.list xs), .no, .no] = .ok (.ow ((xs.map fun x => PyData.tuple [x, x]).map fun _ => .bool true)) [.fr (.list xs), .fr (.list xs), .no, .no] := by
    refine ev_comp_map (ρw := [.fr (.list xs), .fr (.list xs), .no, .no]) (ds := xs.map fun x => PyData.tuple [x, x]) (by simp [zipD, zip_self]) (by simp [wipeE]) (by simp [wipeE]) (by simp [backE]) (lim_le (by rw [List.length_map]; exact hh.1)) fun y hy => ?_
    obtain ⟨x, hx, rfl⟩ := List.mem_map.mp hy
    have e := ih x (hh.2 x hx)
    refine ⟨[.fr (.list xs), .fr (.list xs), .fr x, .fr x], by simp [wipeE], by simp, [.fr (.list xs), .fr (.list xs), .fr x, .fr x], ?_, by simp [wipeE]⟩
    simp [e__law_same_0, e]
  have a := all_true xs
  generalize ((xs.map fun x => PyData.tuple [x, x]).map fun _ => PyData.bool true) = L at r a
  simp [t__law_same, r, -all_lst, a]
end Wk
end T_LD
section T_M61
/-! M61: words that come again to the left, for ever. -/
namespace M61
variable {α : Type}
/-- f has the period p between a and n -/
def Per (f : Nat → α) (a n p : Nat) : Prop := ∀ j, a ≤ j → j + p < n → f j = f (j + p)
theorem per_gcd (f : Nat → α) (a n : Nat) : ∀ m p q : Nat, p + q ≤ m → 0 < p → 0 < q → a + p + q ≤ n → Per f a n p → Per f a n q → Per f a n (Nat.gcd p q)
  | 0, p, q, h, hp, _, _, _, _ => by omega
  | m + 1, p, q, h, hp, hq, hl, h1, h2 => by
    rcases Nat.lt_trichotomy p q with c | c | c
    · have h3 : Per f a n (q - p) := fun j ha hj => by
        by_cases e : j + q < n
        · rw [h2 j ha e]
          have := h1 (j + (q - p)) (by omega) (by omega)
          rw [this]
          congr 1
          omega
        · have e1 := h1 (j - p) (by omega) (by omega)
          have e2 := h2 (j - p) (by omega) (by omega)
          rw [show j - p + p = j by omega] at e1
          rw [← e1, e2]
          congr 1
          omega
      have := per_gcd f a n m p (q - p) (by omega) hp (by omega) (by omega) h1 h3
      rwa [Nat.gcd_sub_self_right (Nat.le_of_lt c)] at this
    · subst c
      rw [Nat.gcd_self]
      exact h1
    · have h3 : Per f a n (p - q) := fun j ha hj => by
        by_cases e : j + p < n
        · rw [h1 j ha e]
          have := h2 (j + (p - q)) (by omega) (by omega)
          rw [this]
          congr 1
          omega
        · have e1 := h2 (j - q) (by omega) (by omega)
          have e2 := h1 (j - q) (by omega) (by omega)
          rw [show j - q + q = j by omega] at e1
          rw [← e1, e2]
          congr 1
          omega
      have := per_gcd f a n m (p - q) q (by omega) (by omega) hq (by omega) h3 h2
      rwa [Nat.gcd_sub_self_left (Nat.le_of_lt c)] at this
/-- s comes again by r from t on, for ever; no shorter; no earlier -/
structure Canon (s : Nat → α) (t r : Nat) : Prop where
  r1 : 1 ≤ r
  per : ∀ j, t ≤ j → s (j + r) = s j
  prim : ∀ g, 0 < g → g ∣ r → (∃ T, ∀ j, T ≤ j → s (j + g) = s j) → g = r
  last : t = 0 ∨ s (t - 1) ≠ s (t - 1 + r)
theorem per_mul {s : Nat → α} {t r : Nat} (h : ∀ j, t ≤ j → s (j + r) = s j) : ∀ (k j : Nat), t ≤ j → s (j + r * k) = s j
  | 0, j, _ => by simp
  | k + 1, j, hj => by
    rw [Nat.mul_succ, ← Nat.add_assoc, h _ (by omega), per_mul h k j hj]
theorem per_mod {s : Nat → α} {t r : Nat} (h : ∀ j, t ≤ j → s (j + r) = s j) (m : Nat) : s (t + m) = s (t + m % r) := by
  have := per_mul h (m / r) (t + m % r) (by omega)
  rw [← this]
  congr 1
  have := Nat.mod_add_div m r
  omega
theorem canon_b {s : Nat → α} {t r t2 r2 n : Nat} (c : Canon s t r) (hn : t + r + r2 ≤ n) (h2 : 1 ≤ r2) (ht : t2 ≤ t) (p : Per s t2 n r2) : t2 = t ∧ r ≤ r2 := by
  have hr := c.r1
  have w1 : Per s t n r := fun j hj _ => (c.per j hj).symm
  have w2 : Per s t n r2 := fun j hj hl => p j (by omega) hl
  have g := per_gcd s t n (r + r2) r r2 (Nat.le_refl _) (by omega) (by omega) hn w1 w2
  have gd : Nat.gcd r r2 ∣ r := Nat.gcd_dvd_left _ _
  have gp : 0 < Nat.gcd r r2 := Nat.gcd_pos_of_pos_left _ (by omega)
  have gr : Nat.gcd r r2 ≤ r2 := Nat.le_of_dvd (by omega) (Nat.gcd_dvd_right _ _)
  have inf : ∀ j, t ≤ j → s (j + Nat.gcd r r2) = s j := fun j hj => by
    have lt : (j - t) % r < r := Nat.mod_lt _ (by omega)
    have e1 := per_mod c.per (j - t)
    rw [show t + (j - t) = j by omega] at e1
    have e2 := g (t + (j - t) % r) (by omega) (by omega)
    have e3 := per_mul c.per ((j - t) / r) (t + (j - t) % r + Nat.gcd r r2) (by omega)
    have e4 := Nat.mod_add_div (j - t) r
    rw [e1, e2, ← e3]
    congr 1
    omega
  have e := c.prim _ gp gd ⟨t, inf⟩
  have dv : r ∣ r2 := by rw [← e]; exact Nat.gcd_dvd_right _ _
  refine ⟨?_, by omega⟩
  rcases Nat.lt_or_ge t2 t with q | q
  · exfalso
    rcases c.last with z | z
    · omega
    · apply z
      have e1 := p (t - 1) (by omega) (by omega)
      rw [e1]
      obtain ⟨k, rfl⟩ := dv
      cases k with
      | zero => simp at h2
      | succ k =>
        have e2 := per_mul c.per k (t - 1 + r) (by omega)
        rw [← e2]
        congr 1
        rw [Nat.mul_succ]
        omega
  · omega
theorem canon_one {s : Nat → α} {t r t2 r2 : Nat} (c : Canon s t r) (c2 : Canon s t2 r2) : t = t2 ∧ r = r2 := by
  have h1 := c.r1
  have h2 := c2.r1
  rcases Nat.le_total t2 t with h | h
  · obtain ⟨a, b⟩ := canon_b c (n := t + r + r2) (Nat.le_refl _) h2 h fun j hj _ => (c2.per j hj).symm
    obtain ⟨a', b'⟩ := canon_b c2 (n := t2 + r2 + r) (Nat.le_refl _) h1 (by omega) fun j hj _ => (c.per j hj).symm
    omega
  · obtain ⟨a, b⟩ := canon_b c2 (n := t2 + r2 + r) (Nat.le_refl _) h1 h fun j hj _ => (c.per j hj).symm
    obtain ⟨a', b'⟩ := canon_b c (n := t + r + r2) (Nat.le_refl _) h2 (by omega) fun j hj _ => (c2.per j hj).symm
    omega
/-- the letter j from the end -/
def lt (p t : List Int) (j : Nat) : Int := if j < t.length then t.reverse.getD j 0 else p.reverse.getD ((j - t.length) % p.length) 0
def rowOf (s : Nat → Int) (n : Nat) : List Int := ((List.range n).map s).reverse
theorem rowOf_len (s : Nat → Int) (n : Nat) : (rowOf s n).length = n := by simp [rowOf]
theorem rowOf_get {s : Nat → Int} {n i : Nat} (h : i < n) : (rowOf s n)[i]? = some (s (n - 1 - i)) := by
  unfold rowOf
  rw [List.getElem?_reverse (by simpa using h), List.length_map, List.length_range, List.getElem?_map, List.getElem?_range (by omega)]
  rfl
theorem rowOf_ext {s s' : Nat → Int} {n : Nat} : rowOf s n = rowOf s' n ↔ ∀ j, j < n → s j = s' j := by
  unfold rowOf
  constructor
  · intro h j hj
    have h := List.reverse_inj.mp h
    have := congrArg (fun l => l[j]?) h
    simpa [hj] using this
  · intro h
    congr 1
    exact List.map_congr_left fun j hj => h j (by simpa using hj)
theorem flat_get {l : List Int} : ∀ {m i : Nat}, i < m * l.length → (List.replicate m l).flatten[i]? = l[i % l.length]?
  | 0, i, h => by omega
  | m + 1, i, h => by
    rw [List.replicate_succ, List.flatten_cons, List.getElem?_append]
    rw [Nat.succ_mul] at h
    split
    · rename_i c
      rw [Nat.mod_eq_of_lt c]
    · rename_i c
      rw [flat_get (by omega)]
      congr 1
      exact (Nat.mod_eq_sub_mod (by omega)).symm
theorem flat_len {l : List Int} {m : Nat} : (List.replicate m l).flatten.length = m * l.length := by simp [List.length_flatten]
/-- so many rounds ahead of the tail: the last letters -/
theorem last_row {p t : List Int} {k n : Nat} (hp : p ≠ []) (h : n ≤ k * p.length + t.length) : ((List.replicate k p).flatten ++ t).drop (((List.replicate k p).flatten ++ t).length - n) = rowOf (lt p t) n := by
  have hl : ((List.replicate k p).flatten ++ t).length = k * p.length + t.length := by rw [List.length_append, flat_len]
  have pp : 0 < p.length := List.length_pos_iff.mpr hp
  apply List.ext_getElem?
  intro i
  rw [List.getElem?_drop, hl]
  by_cases hi : i < n
  · rw [rowOf_get hi]
    unfold lt
    rw [List.getElem?_append, flat_len]
    split
    · rename_i c
      rw [flat_get c]
      rw [if_neg (by omega)]
      have c1 : (k * p.length + t.length - n + i) % p.length < p.length := Nat.mod_lt _ pp
      rw [List.getD_eq_getElem?_getD, List.getElem?_reverse (Nat.mod_lt _ pp)]
      have e : p.length - 1 - (n - 1 - i - t.length) % p.length = (k * p.length + t.length - n + i) % p.length := by
        have e1 : (k * p.length + t.length - n + i) = k * p.length - 1 - (n - 1 - i - t.length) := by omega
        rw [e1]
        generalize hm : n - 1 - i - t.length = m at *
        have d := Nat.mod_add_div m p.length
        have lt1 : m % p.length < p.length := Nat.mod_lt _ pp
        have e2 : k * p.length - 1 - m = (p.length - 1 - m % p.length) + p.length * (k - 1 - m / p.length) := by
          have hk : m / p.length + 1 ≤ k := by
            rcases Nat.lt_or_ge (m / p.length) k with q | q
            · omega
            · exfalso
              have := Nat.mul_le_mul_left p.length q
              rw [Nat.mul_comm p.length k] at this
              omega
          obtain ⟨z, rfl⟩ := Nat.exists_eq_add_of_le hk
          rw [show m / p.length + 1 + z - 1 - m / p.length = z by omega]
          have : (m / p.length + 1 + z) * p.length = p.length * (m / p.length) + p.length + p.length * z := by
            rw [Nat.add_mul, Nat.add_mul, Nat.one_mul, Nat.mul_comm _ p.length, Nat.mul_comm z]
          omega
        rw [e2, Nat.add_mul_mod_self_left, Nat.mod_eq_of_lt (show p.length - 1 - m % p.length < p.length by omega)]
      rw [e, List.getElem?_eq_getElem c1]
      rfl
    · rename_i c
      rw [if_pos (by omega), List.getD_eq_getElem?_getD, List.getElem?_reverse (by omega)]
      have e : t.length - 1 - (n - 1 - i) = k * p.length + t.length - n + i - k * p.length := by omega
      rw [e, List.getElem?_eq_getElem (by omega)]
      rfl
  · rw [List.getElem?_eq_none (by rw [hl]; omega), List.getElem?_eq_none (by rw [rowOf_len]; omega)]
/-! the least round -/
/-- r is l again and again -/
def isRep (r l : List Int) : Prop := (List.replicate (r.length / l.length) l).flatten = r
def lr (r : List Int) : List Int := match (List.range r.length).find? fun k => decide (r.length % (k + 1) = 0 ∧ (List.replicate (r.length / (k + 1)) (r.take (k + 1))).flatten = r) with
  | some k => r.take (k + 1)
  | none => r
theorem rep_get {r : List Int} {g : Nat} (hg : 0 < g) (hd : g ∣ r.length) : (List.replicate (r.length / g) (r.take g)).flatten = r ↔ ∀ i, i + g < r.length → r[i]? = r[i + g]? := by
  obtain ⟨m, hm⟩ := hd
  have hdiv : r.length / g = m := by rw [hm]; exact Nat.mul_div_cancel_left m hg
  rw [hdiv]
  have tl : m ≠ 0 → (r.take g).length = g := fun h0 => by
    rw [List.length_take, hm]
    have : g * 1 ≤ g * m := Nat.mul_le_mul_left g (by omega)
    omega
  constructor
  · intro h i hi
    have h0 : m ≠ 0 := by rintro rfl; rw [Nat.mul_zero] at hm; omega
    have g1 : i < m * (r.take g).length := by rw [tl h0, Nat.mul_comm, ← hm]; omega
    have g2 : i + g < m * (r.take g).length := by rw [tl h0, Nat.mul_comm, ← hm]; omega
    have e1 := flat_get g1
    have e2 := flat_get g2
    rw [h] at e1 e2
    rw [e1, e2, tl h0, Nat.add_mod_right]
  · intro h
    by_cases h0 : m = 0
    · subst h0
      simp at hm
      rw [hm]
      rfl
    apply List.ext_getElem?
    intro i
    by_cases hi : i < r.length
    · rw [flat_get (by rw [tl h0, Nat.mul_comm, ← hm]; exact hi), tl h0]
      have lt1 : i % g < g := Nat.mod_lt _ hg
      rw [List.getElem?_take, if_pos lt1]
      have go : ∀ q : Nat, i % g + g * q < r.length → r[i % g]? = r[i % g + g * q]? := by
        intro q
        induction q with
        | zero => intro _; rfl
        | succ q ih =>
          intro hq
          rw [Nat.mul_succ] at hq ⊢
          rw [ih (by omega), h _ (by omega), Nat.add_assoc]
      have d := Nat.mod_add_div i g
      have := go (i / g) (by omega)
      rw [d] at this
      exact this
    · rw [List.getElem?_eq_none (by rw [flat_len, tl h0, Nat.mul_comm, ← hm]; omega), List.getElem?_eq_none (by omega)]
theorem lr_find {r : List Int} (hr : r ≠ []) : ∃ k, (List.range r.length).find? (fun k => decide (r.length % (k + 1) = 0 ∧ (List.replicate (r.length / (k + 1)) (r.take (k + 1))).flatten = r)) = some k ∧ k < r.length := by
  have pp := List.length_pos_iff.mpr hr
  cases e : (List.range r.length).find? (fun k => decide (r.length % (k + 1) = 0 ∧ (List.replicate (r.length / (k + 1)) (r.take (k + 1))).flatten = r)) with
  | some k => exact ⟨k, rfl, by simpa using List.mem_of_find?_eq_some e⟩
  | none =>
    exfalso
    have := List.find?_eq_none.mp e (r.length - 1) (by simp; omega)
    apply this
    have e1 : r.length - 1 + 1 = r.length := by omega
    rw [e1]
    simp [Nat.div_self pp]
/-- what lr gives -/
theorem lr_ok {r : List Int} (hr : r ≠ []) : ∃ k, 1 ≤ k ∧ k ≤ r.length ∧ k ∣ r.length ∧ lr r = r.take k ∧ (List.replicate (r.length / k) (r.take k)).flatten = r ∧ ∀ g, 0 < g → g ∣ r.length → (∀ i, i + g < r.length → r[i]? = r[i + g]?) → k ≤ g := by
  obtain ⟨k, e, hk⟩ := lr_find hr
  have hp := List.find?_some e
  simp only [decide_eq_true_eq] at hp
  refine ⟨k + 1, by omega, hk, Nat.dvd_of_mod_eq_zero hp.1, by unfold lr; rw [e], hp.2, fun g hg hd h => ?_⟩
  rcases Nat.lt_or_ge g (k + 1) with q | q
  · exfalso
    obtain ⟨as, bs, h1, h2⟩ := List.find?_eq_some_iff_append.mp e |>.2
    have hm : g - 1 ∈ as := by
      have gl := Nat.le_of_dvd (List.length_pos_iff.mpr hr) hd
      have : (List.range r.length)[g - 1]? = some (g - 1) := List.getElem?_range (by omega)
      have hk2 : (List.range r.length)[as.length]? = some k := by rw [h1]; simp
      have hka : as.length = k := by
        have hl : as.length < r.length := by
          have := congrArg List.length h1
          simp at this
          omega
        rw [List.getElem?_range hl] at hk2
        exact Option.some.inj hk2
      rw [h1, List.getElem?_append_left (by omega)] at this
      exact List.mem_of_getElem? this
    have := h2 _ hm
    rw [show g - 1 + 1 = g by omega] at this
    simp only [Bool.not_eq_true', decide_eq_false_iff_not, not_and] at this
    exact this (Nat.mod_eq_zero_of_dvd hd) ((rep_get hg hd).mpr h)
  · exact q
/-! the least form -/
def red : List Int → List Int → List Int × List Int
  | a, [] => (a, [])
  | a, x :: t => if a.head? = some x then red (a.drop 1 ++ a.take 1) t else (a, x :: t)
theorem lt_tail {p t : List Int} {j : Nat} (h : j < t.length) : lt p t j = t.getD (t.length - 1 - j) 0 := by
  unfold lt
  rw [if_pos h, List.getD_eq_getElem?_getD, List.getElem?_reverse h, List.getD_eq_getElem?_getD]
theorem lt_round {p t : List Int} (hp : p ≠ []) (m : Nat) : lt p t (t.length + m) = p.getD (p.length - 1 - m % p.length) 0 := by
  have pp := List.length_pos_iff.mpr hp
  unfold lt
  rw [if_neg (by omega), show t.length + m - t.length = m by omega, List.getD_eq_getElem?_getD, List.getElem?_reverse (Nat.mod_lt _ pp), List.getD_eq_getElem?_getD]
theorem lt_per {p t : List Int} (hp : p ≠ []) {j : Nat} (h : t.length ≤ j) : lt p t (j + p.length) = lt p t j := by
  obtain ⟨m, rfl⟩ := Nat.exists_eq_add_of_le h
  rw [Nat.add_assoc, lt_round hp, lt_round hp, Nat.add_mod_right]
theorem lt_rot {a t : List Int} {x : Int} (ha : a ≠ []) (h : a.head? = some x) : lt a (x :: t) = lt (a.drop 1 ++ a.take 1) t := by
  have pa := List.length_pos_iff.mpr ha
  have l1 : (a.drop 1 ++ a.take 1).length = a.length := by simp; omega
  have n1 : a.drop 1 ++ a.take 1 ≠ [] := by rw [← List.length_pos_iff, l1]; exact pa
  funext j
  by_cases c : j < t.length
  · rw [lt_tail c, lt_tail (by simp; omega)]
    rw [List.getD_eq_getElem?_getD, List.getD_eq_getElem?_getD]
    congr 1
    rw [show (x :: t).length - 1 - j = (t.length - 1 - j) + 1 by simp; omega, List.getElem?_cons_succ]
  · obtain ⟨m, rfl⟩ := Nat.exists_eq_add_of_le (Nat.le_of_not_lt c)
    rw [lt_round n1, l1]
    by_cases m0 : m = 0
    · subst m0
      rw [Nat.add_zero, lt_tail (by simp)]
      simp only [List.length_cons, Nat.add_sub_cancel, Nat.sub_self, List.getD_cons_zero, Nat.zero_mod, Nat.sub_zero]
      rw [List.getD_eq_getElem?_getD, List.getElem?_append_right (by simp)]
      obtain ⟨y, r, rfl⟩ := List.exists_cons_of_ne_nil ha
      simp at h ⊢
      exact h.symm
    · obtain ⟨m, rfl⟩ := Nat.exists_eq_succ_of_ne_zero m0
      have e1 := lt_round (t := x :: t) ha m
      rw [show t.length + m.succ = (x :: t).length + m by simp; omega, e1]
      obtain ⟨y, r, rfl⟩ := List.exists_cons_of_ne_nil ha
      rw [List.getD_eq_getElem?_getD, List.getD_eq_getElem?_getD]
      simp only [List.drop_succ_cons, List.drop_zero, List.take_succ_cons, List.take_zero, List.length_cons, Nat.add_sub_cancel] at *
      have d := Nat.mod_lt m (show 0 < r.length + 1 by omega)
      have d2 : m.succ % (r.length + 1) = if m % (r.length + 1) = r.length then 0 else m % (r.length + 1) + 1 := by
        rw [Nat.succ_eq_add_one, Nat.add_mod]
        split
        · rename_i q
          rw [q]
          by_cases r0 : r.length = 0
          · simp [r0]
          · rw [Nat.mod_eq_of_lt (show 1 < r.length + 1 by omega), Nat.mod_self]
        · rename_i q
          by_cases r0 : r.length = 0
          · rw [r0] at q d
            omega
          · rw [Nat.mod_eq_of_lt (show 1 < r.length + 1 by omega), Nat.mod_eq_of_lt (by omega)]
      rw [d2]
      split
      · rename_i q
        rw [q, Nat.sub_self, Nat.sub_zero, List.getElem?_append_right (Nat.le_refl _)]
        simp
      · rename_i q
        rw [show r.length - m % (r.length + 1) = (r.length - (m % (r.length + 1) + 1)) + 1 by omega, List.getElem?_cons_succ, List.getElem?_append_left (by omega)]
theorem lr_ne {p : List Int} (hp : p ≠ []) : lr p ≠ [] := by
  obtain ⟨k, h1, h2, _, e, _⟩ := lr_ok hp
  rw [e, ← List.length_pos_iff, List.length_take]
  omega
theorem lt_lr {p t : List Int} (hp : p ≠ []) : lt (lr p) t = lt p t := by
  obtain ⟨k, h1, h2, hd, e, hr, _⟩ := lr_ok hp
  have hl : (lr p).length = k := by rw [e, List.length_take]; omega
  funext j
  by_cases c : j < t.length
  · rw [lt_tail c, lt_tail c]
  · obtain ⟨m, rfl⟩ := Nat.exists_eq_add_of_le (Nat.le_of_not_lt c)
    rw [lt_round (lr_ne hp), lt_round hp, hl, e]
    obtain ⟨q, hq⟩ := hd
    have q0 : 0 < q := Nat.pos_of_ne_zero (by rintro rfl; rw [Nat.mul_zero] at hq; omega)
    have pp := List.length_pos_iff.mpr hp
    have b1 := Nat.mod_lt m pp
    have b2 := Nat.mod_lt m (show 0 < k by omega)
    have tk : (p.take k).length = k := by rw [List.length_take]; omega
    have dv : p.length / k = q := by rw [hq]; exact Nat.mul_div_cancel_left q (by omega)
    rw [dv] at hr
    have f1 := flat_get (l := p.take k) (m := q) (i := p.length - 1 - m % p.length) (by rw [tk, Nat.mul_comm, ← hq]; omega)
    rw [hr, tk] at f1
    rw [List.getD_eq_getElem?_getD, List.getD_eq_getElem?_getD, f1]
    congr 2
    -- the places
    have m1 : m % p.length % k = m % k := by rw [hq]; exact Nat.mod_mul_right_mod m k q
    generalize m % p.length = x at *
    rw [← m1]
    have d := Nat.mod_add_div x k
    have b3 := Nat.mod_lt x (show 0 < k by omega)
    have hx : x / k + 1 ≤ q := by
      rcases Nat.lt_or_ge (x / k) q with z | z
      · omega
      · exfalso
        have := Nat.mul_le_mul_left k z
        omega
    obtain ⟨z, rfl⟩ := Nat.exists_eq_add_of_le hx
    have e3 : p.length = k * (x / k) + k + k * z := by rw [hq, Nat.mul_add, Nat.mul_add, Nat.mul_one]
    rw [show p.length - 1 - x = (k - 1 - x % k) + k * z by omega, Nat.add_mul_mod_self_left, Nat.mod_eq_of_lt (show k - 1 - x % k < k by omega)]
theorem red_ok : ∀ {t a : List Int}, a ≠ [] → (red a t).1 ≠ [] ∧ (red a t).1.length = a.length ∧ (red a t).2.length ≤ t.length ∧ lt (red a t).1 (red a t).2 = lt a t ∧ ((red a t).2 = [] ∨ (red a t).1.head? ≠ (red a t).2.head?)
  | [], a, h => ⟨h, rfl, Nat.le_refl _, rfl, .inl rfl⟩
  | x :: t, a, h => by
    unfold red
    split
    · rename_i c
      have pa := List.length_pos_iff.mpr h
      have l1 : (a.drop 1 ++ a.take 1).length = a.length := by simp; omega
      have n1 : a.drop 1 ++ a.take 1 ≠ [] := by rw [← List.length_pos_iff, l1]; exact pa
      obtain ⟨h1, h2, h3, h4, h5⟩ := red_ok (t := t) n1
      exact ⟨h1, h2.trans l1, Nat.le_succ_of_le h3, h4.trans (lt_rot h c).symm, h5⟩
    · rename_i c
      exact ⟨h, rfl, Nat.le_refl _, rfl, .inr c⟩
/-- no shorter round -/
theorem lr_prim {p t : List Int} (hp : p ≠ []) : ∀ g, 0 < g → g ∣ (lr p).length → (∃ T, ∀ j, T ≤ j → lt p t (j + g) = lt p t j) → g = (lr p).length := by
  intro g hg hd ⟨T, hT⟩
  obtain ⟨k, h1, h2, hdk, e, hr, hmin⟩ := lr_ok hp
  have hl : (lr p).length = k := by rw [e, List.length_take]; omega
  rw [hl] at hd ⊢
  have hgk := Nat.le_of_dvd (by omega) hd
  have pp := List.length_pos_iff.mpr hp
  have : k ≤ g := by
    refine hmin g hg (Nat.dvd_trans hd hdk) fun i hi => ?_
    have key := hT (t.length + ((p.length - 1 - (i + g)) + p.length * T)) (by
      have := Nat.mul_le_mul_right T (show 1 ≤ p.length from pp)
      omega)
    rw [lt_round hp, show t.length + (p.length - 1 - (i + g) + p.length * T) + g = t.length + ((p.length - 1 - i) + p.length * T) by omega, lt_round hp, Nat.add_mul_mod_self_left, Nat.add_mul_mod_self_left, Nat.mod_eq_of_lt (by omega), Nat.mod_eq_of_lt (by omega)] at key
    rw [show p.length - 1 - (p.length - 1 - i) = i by omega, show p.length - 1 - (p.length - 1 - (i + g)) = i + g by omega, List.getD_eq_getElem?_getD, List.getD_eq_getElem?_getD, List.getElem?_eq_getElem (show i < p.length by omega), List.getElem?_eq_getElem (show i + g < p.length by omega)] at key
    rw [List.getElem?_eq_getElem (show i < p.length by omega), List.getElem?_eq_getElem (show i + g < p.length by omega)]
    exact congrArg some key
  omega
def lo (p t : List Int) : List Int × List Int := red (lr p) t
theorem lo_canon {p t : List Int} (hp : p ≠ []) : Canon (lt p t) (lo p t).2.length (lo p t).1.length ∧ lt (lo p t).1 (lo p t).2 = lt p t ∧ (lo p t).1 ≠ [] ∧ (lo p t).1.length ≤ p.length ∧ (lo p t).2.length ≤ t.length := by
  obtain ⟨h1, h2, h3, h4, h5⟩ := red_ok (t := t) (lr_ne hp)
  have e : lt (lo p t).1 (lo p t).2 = lt p t := h4.trans (lt_lr hp)
  have hk : (lr p).length ≤ p.length := by
    obtain ⟨k, _, k2, _, e, _⟩ := lr_ok hp
    rw [e, List.length_take]; omega
  have pp := List.length_pos_iff.mpr h1
  refine ⟨⟨pp, fun j hj => ?_, ?_, ?_⟩, e, h1, by show (red (lr p) t).1.length ≤ _; omega, h3⟩
  · rw [← e]; exact lt_per h1 hj
  · intro g hg hd hT
    have : (lo p t).1.length = (lr p).length := h2
    rw [this] at hd ⊢
    exact lr_prim hp g hg hd hT
  · rcases h5 with z | z
    · exact .inl (by show (red (lr p) t).2.length = 0; rw [z]; rfl)
    · by_cases u0 : (lo p t).2.length = 0
      · exact .inl u0
      · right
        rw [← e, lt_tail (show (lo p t).2.length - 1 < (lo p t).2.length by omega), show (lo p t).2.length - 1 + (lo p t).1.length = (lo p t).2.length + ((lo p t).1.length - 1) by have : 0 < (lo p t).1.length := pp; omega, lt_round (p := (lo p t).1) (t := (lo p t).2) h1, Nat.mod_eq_of_lt (by have : 0 < (lo p t).1.length := pp; omega)]
        intro q
        apply z
        obtain ⟨y, r, e1⟩ := List.exists_cons_of_ne_nil h1
        obtain ⟨x, v, e2⟩ := List.exists_cons_of_ne_nil (show (lo p t).2 ≠ [] by rintro w; rw [w] at u0; exact u0 rfl)
        have e1' : (lo p t).1 = y :: r := e1
        rw [e1', e2] at q
        simp at q
        show (lo p t).1.head? = (lo p t).2.head?
        rw [e1', e2]
        simp [q]
/-- the letters from a on, so many -/
def seg (s : Nat → Int) (a n : Nat) : List Int := ((List.range n).map fun i => s (a + i)).reverse
theorem seg_len (s : Nat → Int) (a n : Nat) : (seg s a n).length = n := by simp [seg]
theorem seg_get {s : Nat → Int} {a n i : Nat} (h : i < n) : (seg s a n)[i]? = some (s (a + (n - 1 - i))) := by
  unfold seg
  rw [List.getElem?_reverse (by simpa using h), List.length_map, List.length_range, List.getElem?_map, List.getElem?_range (by omega)]
  rfl
theorem seg_of {b u : List Int} (hb : b ≠ []) : seg (lt b u) u.length b.length = b ∧ seg (lt b u) 0 u.length = u := by
  have pp := List.length_pos_iff.mpr hb
  constructor
  · apply List.ext_getElem?
    intro i
    by_cases hi : i < b.length
    · rw [seg_get hi, lt_round hb, Nat.mod_eq_of_lt (by omega), show b.length - 1 - (b.length - 1 - i) = i by omega, List.getD_eq_getElem?_getD, List.getElem?_eq_getElem hi]
      rfl
    · rw [List.getElem?_eq_none (by rw [seg_len]; omega), List.getElem?_eq_none (by omega)]
  · apply List.ext_getElem?
    intro i
    by_cases hi : i < u.length
    · rw [seg_get hi, Nat.zero_add, lt_tail (by omega), show u.length - 1 - (u.length - 1 - i) = i by omega, List.getD_eq_getElem?_getD, List.getElem?_eq_getElem hi]
      rfl
    · rw [List.getElem?_eq_none (by rw [seg_len]; omega), List.getElem?_eq_none (by omega)]
theorem lo_seg {p t : List Int} (hp : p ≠ []) : lo p t = (seg (lt p t) (lo p t).2.length (lo p t).1.length, seg (lt p t) 0 (lo p t).2.length) := by
  obtain ⟨_, e, h1, _⟩ := lo_canon (t := t) hp
  obtain ⟨s1, s2⟩ := seg_of (u := (lo p t).2) h1
  rw [e] at s1 s2
  rw [s1, s2]
/-- it hangs on the letters alone -/
theorem lo_same {p t p' t' : List Int} (hp : p ≠ []) (hp' : p' ≠ []) (h : lt p t = lt p' t') : lo p t = lo p' t' := by
  have c1 := (lo_canon (t := t) hp).1
  have c2 := (lo_canon (t := t') hp').1
  rw [← h] at c2
  obtain ⟨e1, e2⟩ := canon_one c1 c2
  rw [lo_seg hp, lo_seg hp', e1, e2, h]
/-- what the law looks for -/
def fits (s : Nat → Int) (t r : Nat) : Prop := rowOf (lt (seg s t r) (seg s 0 t)) 40 = rowOf s 40
theorem lt_seg {s : Nat → Int} {t r j : Nat} (hr : 1 ≤ r) : lt (seg s t r) (seg s 0 t) j = if j < t then s j else s (t + (j - t) % r) := by
  by_cases c : j < t
  · rw [if_pos c, lt_tail (by rw [seg_len]; exact c), List.getD_eq_getElem?_getD, seg_len, seg_get (by omega)]
    show s (0 + (t - 1 - (t - 1 - j))) = _
    congr 1; omega
  · rw [if_neg c]
    obtain ⟨m, rfl⟩ := Nat.exists_eq_add_of_le (Nat.le_of_not_lt c)
    have n1 : seg s t r ≠ [] := by rw [← List.length_pos_iff, seg_len]; omega
    have := lt_round (t := seg s 0 t) n1 m
    rw [seg_len, seg_len] at this
    have b := Nat.mod_lt m (show 0 < r by omega)
    rw [this, List.getD_eq_getElem?_getD, seg_get (by omega), show t + m - t = m by omega]
    show s (t + (r - 1 - (r - 1 - m % r))) = _
    congr 2; omega
theorem fits_per {s : Nat → Int} {t r : Nat} (hr : 1 ≤ r) : fits s t r ↔ Per s t 40 r := by
  unfold fits
  rw [rowOf_ext]
  constructor
  · intro h j hj hl
    have e1 := h j (by omega)
    have e2 := h (j + r) hl
    rw [lt_seg hr, if_neg (by omega)] at e1 e2
    rw [← e1, ← e2]
    congr 2
    rw [show j + r - t = (j - t) + r by omega, Nat.add_mod_right]
  · intro h j hj
    rw [lt_seg hr]
    split
    · rfl
    · rename_i c
      obtain ⟨m, rfl⟩ := Nat.exists_eq_add_of_le (Nat.le_of_not_lt c)
      rw [show t + m - t = m by omega]
      have go : ∀ q : Nat, t + (m % r + r * q) < 40 → s (t + m % r) = s (t + (m % r + r * q)) := by
        intro q
        induction q with
        | zero => intro _; rfl
        | succ q ih =>
          intro hq
          rw [Nat.mul_succ] at hq ⊢
          rw [ih (by omega), h (t + (m % r + r * q)) (by omega) (by omega)]
          congr 1
          omega
      have d := Nat.mod_add_div m r
      have := go (m / r) (by rw [d]; exact hj)
      rw [d] at this
      exact this
theorem fits_lo {p t : List Int} (hp : p ≠ []) (h1 : p.length ≤ 12) (h2 : t.length ≤ 12) {t2 r2 : Nat} (hr : 1 ≤ r2) (hr2 : r2 ≤ 12) (ht : t2 ≤ (lo p t).2.length) (h : fits (lt p t) t2 r2) : t2 = (lo p t).2.length ∧ (lo p t).1.length ≤ r2 := by
  obtain ⟨c, _, _, l1, l2⟩ := lo_canon (t := t) hp
  exact canon_b c (n := 40) (by omega) hr ht ((fits_per hr).mp h)
theorem fits_at {p t : List Int} (hp : p ≠ []) : fits (lt p t) (lo p t).2.length (lo p t).1.length := by
  obtain ⟨c, _⟩ := lo_canon (t := t) hp
  exact (fits_per c.r1).mpr fun j hj _ => (c.per j hj).symm
theorem lt_more {p t : List Int} (hp : p ≠ []) : lt p (p ++ t) = lt p t := by
  have pp := List.length_pos_iff.mpr hp
  funext j
  by_cases c : j < (p ++ t).length
  · rw [lt_tail c]
    by_cases c2 : j < t.length
    · rw [lt_tail c2, List.getD_eq_getElem?_getD, List.getD_eq_getElem?_getD, List.getElem?_append_right (by rw [List.length_append]; omega)]
      congr 2
      rw [List.length_append]
      omega
    · obtain ⟨m, rfl⟩ := Nat.exists_eq_add_of_le (Nat.le_of_not_lt c2)
      rw [List.length_append] at c
      rw [lt_round hp, Nat.mod_eq_of_lt (by omega), List.getD_eq_getElem?_getD, List.getD_eq_getElem?_getD, List.getElem?_append_left (by rw [List.length_append]; omega)]
      congr 2
      rw [List.length_append]
      omega
  · obtain ⟨m, rfl⟩ := Nat.exists_eq_add_of_le (Nat.le_of_not_lt c)
    have := lt_round (t := p ++ t) hp m
    rw [this, show (p ++ t).length + m = t.length + (m + p.length) by rw [List.length_append]; omega, lt_round hp, Nat.add_mod_right]
theorem lt_twice {p t : List Int} (hp : p ≠ []) : lt (p ++ p) t = lt p t := by
  have pp := List.length_pos_iff.mpr hp
  have h2 : p ++ p ≠ [] := by simp [hp]
  funext j
  by_cases c : j < t.length
  · rw [lt_tail c, lt_tail c]
  · obtain ⟨m, rfl⟩ := Nat.exists_eq_add_of_le (Nat.le_of_not_lt c)
    rw [lt_round h2, lt_round hp, List.length_append]
    have m1 : m % (p.length + p.length) % p.length = m % p.length := by
      rw [show p.length + p.length = p.length * 2 by omega]
      exact Nat.mod_mul_right_mod m p.length 2
    have b1 := Nat.mod_lt m (show 0 < p.length + p.length by omega)
    generalize m % (p.length + p.length) = x at *
    rw [← m1, List.getD_eq_getElem?_getD, List.getD_eq_getElem?_getD]
    by_cases q : x < p.length
    · rw [Nat.mod_eq_of_lt q, List.getElem?_append_right (by omega)]
      congr 2
      omega
    · rw [Nat.mod_eq_sub_mod (by omega), Nat.mod_eq_of_lt (show x - p.length < p.length by omega), List.getElem?_append_left (by omega)]
      congr 2
      omega
theorem lt_back {p t : List Int} (hp : p ≠ []) : lt (p.drop (p.length - 1) ++ p.take (p.length - 1)) (p.drop (p.length - 1) ++ t) = lt p t := by
  obtain ⟨i, x, rfl⟩ : ∃ i x, p = i ++ [x] := ⟨p.dropLast, p.getLast hp, (List.dropLast_concat_getLast hp).symm⟩
  have l : (i ++ [x]).length - 1 = i.length := by simp
  rw [l, List.drop_left, List.take_left]
  have := lt_rot (a := [x] ++ i) (t := t) (x := x) (by simp) rfl
  simpa using this
end M61
end T_M61
section T_LE
set_option maxHeartbeats 1000000
/-! LE: what k61's defs are worth. -/
namespace Wk
open PySem M61
def e_is_row_of_0 : T := (.call "is_within" (.cons (.var 2) (.cons (.lit (.int 0)) (.cons (.bin .sub (.var 0) (.lit (.int 1))) .nil))))
def c_is_row_of_1 : T := (.comp (.nm 2) [2] (.dat (.var 1)) .nil e_is_row_of_0)
def t_is_row_of : T := (.seq (.ret (.and (.isi [.ttuple] (.var 1)) (.bi .all (.cons c_is_row_of_1 .nil)))) .skip)
def t_is_end_of : T := (.seq (.ife (.cons (.or (.not (.call "is_long" (.cons (.var 1) (.cons (.lit (.int 2)) .nil)))) (.or (.not (.call "is_row_of" (.cons (.var 0) (.cons (.ix (.var 1) (.lit (.int 0))) .nil)))) (.not (.call "is_row_of" (.cons (.var 0) (.cons (.ix (.var 1) (.lit (.int 1))) .nil)))))) .nil) (.seq (.ret (.lit (.bool false))) .skip) .skip) (.seq (.ret (.and (.chain .le .le (.lit (.int 1)) (.bi .len (.cons (.ix (.var 1) (.lit (.int 0))) .nil)) (.lit (.int 12))) (.cmp .le (.bi .len (.cons (.ix (.var 1) (.lit (.int 1))) .nil)) (.lit (.int 12))))) .skip))
def t_sure_end : T := (.seq (.set 2 (.call "tupled" (.cons (.var 1) .nil))) (.seq (.ife (.cons (.not (.call "is_end_of" (.cons (.ix (.var 0) (.lit (.int 0))) (.cons (.var 2) .nil)))) .nil) (.seq (.raise "Unfit") .skip) .skip) (.seq (.ret (.var 2)) .skip)))
def b_least_round_0 : T := (.seq (.ife (.cons (.and (.cmp .eq (.bin .mod (.bi .len (.cons (.var 0) .nil)) (.var 1)) (.lit (.int 0))) (.cmp .eq (.bin .mul (.sl (.var 0) .nil (.cons (.var 1) .nil)) (.bin .fdiv (.bi .len (.cons (.var 0) .nil)) (.var 1))) (.var 0))) .nil) (.seq (.ret (.sl (.var 0) .nil (.cons (.var 1) .nil))) .skip) .skip) .skip)
def l_least_round_1 : T := (.forr (.nm 1) (.rng2 (.lit (.int 1)) (.bin .add (.bi .len (.cons (.var 0) .nil)) (.lit (.int 1)))) b_least_round_0)
def t_least_round : T := (.seq l_least_round_1 (.seq (.ret (.var 0)) .skip))
def t_least_in_end_0 : T := (.cons (.and (.cmp .ne (.var 2) (.tup .nil)) (.cmp .eq (.ix (.var 2) (.lit (.int 0))) (.ix (.var 1) (.lit (.int 0))))) .nil)
def b_least_in_end_1 : T := (.seq (.par 1 2 (.bin .add (.sl (.var 1) (.cons (.lit (.int 1)) .nil) .nil) (.sl (.var 1) .nil (.cons (.lit (.int 1)) .nil))) (.sl (.var 2) (.cons (.lit (.int 1)) .nil) .nil)) .skip)
def w_least_in_end_2 : T := (.whl t_least_in_end_0 b_least_in_end_1)
def t_least_in_end : T := (.seq (.par 1 2 (.call "least_round" (.cons (.ix (.var 0) (.lit (.int 0))) .nil)) (.ix (.var 0) (.lit (.int 1)))) (.seq w_least_in_end_2 (.seq (.ret (.tup (.cons (.var 1) (.cons (.var 2) .nil)))) .skip)))
def t_is_end : T := (.seq (.ret (.call "is_end_of" (.cons (.ix (.call "sure_machine" (.cons (.var 0) .nil)) (.lit (.int 0))) (.cons (.var 1) .nil)))) .skip)
def t_end_letters : T := (.seq (.set 3 (.call "sure_machine" (.cons (.var 0) .nil))) (.seq (.set 4 (.call "sure_end" (.cons (.var 3) (.cons (.var 1) .nil)))) (.seq (.ife (.cons (.not (.call "is_within" (.cons (.var 2) (.cons (.lit (.int 0)) (.cons (.lit (.int 40)) .nil))))) .nil) (.seq (.raise "Unfit") .skip) .skip) (.seq (.ret (.sl (.bin .add (.bin .mul (.ix (.var 4) (.lit (.int 0))) (.bin .add (.var 2) (.lit (.int 1)))) (.ix (.var 4) (.lit (.int 1)))) (.cons (.bin .sub (.bin .add (.bin .mul (.bi .len (.cons (.ix (.var 4) (.lit (.int 0))) .nil)) (.bin .add (.var 2) (.lit (.int 1)))) (.bi .len (.cons (.ix (.var 4) (.lit (.int 1))) .nil))) (.var 2)) .nil) .nil)) .skip))))
def t_least_end : T := (.seq (.set 2 (.call "sure_machine" (.cons (.var 0) .nil))) (.seq (.ret (.call "least_in_end" (.cons (.call "sure_end" (.cons (.var 2) (.cons (.var 1) .nil))) .nil))) .skip))
def e__law_add_0 : T := (.bin .mod (.bin .add (.var 1) (.lit (.int 1))) (.var 0))
def c__law_add_1 : T := (.comp (.nm 1) [1] (.rng1 (.var 0)) .nil e__law_add_0)
def t__law_add : T := (.seq (.ret (.tup (.cons (.var 0) (.cons (.tup (.cons (.tup (.cons (.bi .tuple (.cons c__law_add_1 .nil)) (.cons (.bin .add (.bin .mul (.tup (.cons (.lit (.int 1)) .nil)) (.bin .sub (.var 0) (.lit (.int 1)))) (.tup (.cons (.lit (.int 0)) .nil))) .nil))) (.cons (.tup (.cons (.tupIt (.rng1 (.var 0))) (.cons (.bin .mul (.tup (.cons (.lit (.int 1)) .nil)) (.var 0)) .nil))) .nil))) .nil)))) .skip)
def t__law_last_0 : T := (.cons (.cmp .lt (.bi .len (.cons (.var 2) .nil)) (.var 1)) .nil)
def b__law_last_1 : T := (.seq (.set 2 (.bin .add (.bi .list (.cons (.ix (.var 0) (.lit (.int 0))) .nil)) (.var 2))) .skip)
def w__law_last_2 : T := (.whl t__law_last_0 b__law_last_1)
def t__law_last : T := (.seq (.set 2 (.bi .list (.cons (.ix (.var 0) (.lit (.int 1))) .nil))) (.seq w__law_last_2 (.seq (.ret (.bi .tuple (.cons (.sl (.var 2) (.cons (.bin .sub (.bi .len (.cons (.var 2) .nil)) (.var 1)) .nil) .nil) .nil))) .skip)))
def b__law_least_0 : T := (.seq (.set 6 (.tup (.cons (.sl (.var 3) (.cons (.bin .sub (.bin .sub (.var 2) (.var 4)) (.var 5)) .nil) (.cons (.bin .sub (.var 2) (.var 4)) .nil)) (.cons (.sl (.var 3) (.cons (.bin .sub (.var 2) (.var 4)) .nil) .nil) .nil)))) (.seq (.ife (.cons (.cmp .eq (.call "_law_last" (.cons (.var 6) (.cons (.var 2) .nil))) (.var 3)) .nil) (.seq (.ret (.var 6)) .skip) .skip) .skip))
def l__law_least_1 : T := (.forr (.nm 5) (.rng2 (.lit (.int 1)) (.bin .add (.bi .len (.cons (.ix (.var 0) (.lit (.int 0))) .nil)) (.lit (.int 1)))) b__law_least_0)
def b__law_least_2 : T := (.seq l__law_least_1 .skip)
def l__law_least_3 : T := (.forr (.nm 4) (.rng1 (.bin .add (.bi .len (.cons (.ix (.var 0) (.lit (.int 1))) .nil)) (.lit (.int 1)))) b__law_least_2)
def t__law_least : T := (.seq (.set 2 (.lit (.int 40))) (.seq (.set 3 (.call "_law_last" (.cons (.var 0) (.cons (.var 2) .nil)))) (.seq l__law_least_3 (.seq (.ret (.var 0)) .skip))))
def zD (ns : List Int) : D := .tuple (zs ns)
def eD (p t : List Int) : D := .tuple [zD p, zD t]
theorem fit_zs {n : Nat} {ns : List Int} : (zs ns).all (fit n) = true := by
  simp [List.all_map, List.all_eq_true, Function.comp]
theorem fit_z {n : Nat} {ns : List Int} (h : ns.length ≤ 100000) : fit (n + 1) (zD ns) = true := by
  show (decide ((zs ns).length ≤ 100000) && (zs ns).all (fit n)) = true
  rw [fit_zs, List.length_map, decide_eq_true h]
  rfl
theorem fit_zl {n : Nat} {ns : List Int} (h : ns.length ≤ 100000) : fit (n + 1) (.list (zs ns)) = true := by
  show (decide ((zs ns).length ≤ 100000) && (zs ns).all (fit n)) = true
  rw [fit_zs, List.length_map, decide_eq_true h]
  rfl
theorem fit_tup2 {n : Nat} {a b : D} (h1 : fit n a = true) (h2 : fit n b = true) : fit (n + 1) (.tuple [a, b]) = true := by
  show (decide (([a, b] : List D).length ≤ 100000) && ([a, b] : List D).all (fit n)) = true
  simp [h1, h2]
theorem fit_e {n : Nat} {p t : List Int} (h1 : p.length ≤ 100000) (h2 : t.length ≤ 100000) : fit (n + 2) (eD p t) = true := fit_tup2 (fit_z h1) (fit_z h2)
theorem eqvs_z : ∀ {a b : List Int}, PyData.eqvAll (zs a) (zs b) = decide (a = b)
  | [], [] => by unfold PyData.eqvAll; rfl
  | [], y :: b => by unfold zs PyData.eqvAll; simp
  | x :: a, [] => by unfold zs PyData.eqvAll; simp
  | x :: a, y :: b => by
    show PyData.eqvAll (.int x :: zs a) (.int y :: zs b) = _
    unfold PyData.eqvAll
    rw [eqvs_z (a := a) (b := b)]
    unfold PyData.eqv
    by_cases h1 : x = y <;> by_cases h2 : a = b <;> simp [h1, h2]
theorem eq_z {a b : List Int} (h1 : a.length ≤ 100000) (h2 : b.length ≤ 100000) : cmpD .eq (zD a) (zD b) = some (decide (a = b)) := by
  rw [eq_D ⟨fit_shp (fit_z (n := 0) h1) (by decide), fit_shp (fit_z (n := 0) h2) (by decide)⟩]
  unfold zD PyData.eqv
  rw [eqvs_z]
theorem ne_z {a b : List Int} (h1 : a.length ≤ 100000) (h2 : b.length ≤ 100000) : cmpD .ne (zD a) (zD b) = some (!decide (a = b)) := by
  rw [ne_D ⟨fit_shp (fit_z (n := 0) h1) (by decide), fit_shp (fit_z (n := 0) h2) (by decide)⟩]
  unfold zD PyData.eqv
  rw [eqvs_z]
def isRow (w : Int) : D → Bool
  | .tuple xs => xs.all (inR 0 (w - 1))
  | _ => false
abbrev SRow (F : FnV) : Prop := ∀ n (w : Int) d, fit (n + 1) d = true → F [.fr (.int w), .fr d] = .ok (.fr (.bool (isRow w d))) [.fr (.int w), .fr d]
theorem v_is_row_of {Φ : Fns} (hw : SWithin (Φ "is_within")) : SRow (fnV Φ 2 1 [0, 1] t_is_row_of) := by
  intro n w d h
  have nd := fit_nd h
  rw [fnV_eq (by simp)]
  cases d with
  | tuple xs =>
    obtain ⟨h1, h2⟩ := fit_tuple h
    have hc : ev Φ c_is_row_of_1 [.fr (.int w), .fr (.tuple xs), .no] = .ok (.ow (xs.map fun x => .bool (inR 0 (w - 1) x))) [.fr (.int w), .fr (.tuple xs), .no] := by
      refine ev_comp_map (ρw := [.fr (.int w), .fr (.tuple xs), .no]) (by simp) (by simp [wipeE]) (by simp [wipeE]) (by simp [backE]) (lim_le h1) fun d hd => ?_
      have := fit_nd (h2 d hd)
      simp [e_is_row_of_0, hw _ _ _ this, wipeE]
    simp [t_is_row_of, hc, boolsOf_map', isRow]
  | dict _ => cases nd
  | _ => simp [t_is_row_of, isRow]
def dl : D → Int
  | .tuple xs => xs.length
  | _ => 0
def isEnd (w : Int) : D → Bool
  | .tuple [a, b] => isRow w a && isRow w b && (decide (1 ≤ dl a) && decide (dl a ≤ 12)) && decide (dl b ≤ 12)
  | _ => false
abbrev SEnd (F : FnV) : Prop := ∀ n (w : Int) d, fit (n + 2) d = true → F [.fr (.int w), .fr d] = .ok (.fr (.bool (isEnd w d))) [.fr (.int w), .fr d]
theorem row_len {w : Int} {a : D} (h : isRow w a = true) : biD .len [a] = some (.fr (.int (dl a))) := by
  cases a <;> first | rfl | (cases h)
theorem v_is_end_of {Φ : Fns} (hl : SLong (Φ "is_long")) (hr : SRow (Φ "is_row_of")) : SEnd (fnV Φ 2 0 [0, 1] t_is_end_of) := by
  intro n w d h
  have nd := fit_nd h
  have k1 := hl d 2 nd
  rw [fnV_eq (by simp)]
  by_cases e : isLong 2 d = true
  · rw [e] at k1
    obtain ⟨a, b, rfl⟩ : ∃ a b, d = .tuple [a, b] := by
      cases d with
      | tuple xs =>
        have : (xs.length : Int) = 2 := of_decide_eq_true e
        match xs, this with
        | [a, b], _ => exact ⟨a, b, rfl⟩
        | [], h => simp at h
        | [_], h => simp at h
        | _ :: _ :: _ :: _, h => simp at h; omega
      | _ => cases e
    obtain ⟨h1, h2⟩ := fit_tuple h
    have fa := h2 a (by simp)
    have fb := h2 b (by simp)
    have k2 := hr n w a fa
    have k3 := hr n w b fb
    by_cases ra : isRow w a = true
    · rw [ra] at k2
      by_cases rb : isRow w b = true
      · rw [rb] at k3
        have la := row_len ra
        have lb := row_len rb
        by_cases c1 : 1 ≤ dl a <;> by_cases c2 : dl a ≤ 12 <;> simp [t_is_end_of, k1, k2, k3, la, lb, c1, c2, isEnd, ra, rb]
      · have rb' : isRow w b = false := by simpa using rb
        rw [rb'] at k3
        simp [t_is_end_of, k1, k2, k3, isEnd, rb']
    · have ra' : isRow w a = false := by simpa using ra
      rw [ra'] at k2
      simp [t_is_end_of, k1, k2, isEnd, ra']
  · have e' : isLong 2 d = false := by simpa using e
    rw [e'] at k1
    have ne : isEnd w d = false := by
      cases d with
      | tuple xs =>
        match xs with
        | [a, b] => cases e'
        | [] => rfl
        | [_] => rfl
        | _ :: _ :: _ :: _ => rfl
      | _ => rfl
    rw [ne]
    simp [t_is_end_of, k1]
theorem toTup_z (ns : List Int) : toTup (zD ns) = zD ns := by
  unfold zD toTup
  rw [toTups_eq, List.map_map]
  congr 1
theorem toTup_e (p t : List Int) : toTup (eD p t) = eD p t := by
  show PyData.tuple (toTups [zD p, zD t]) = _
  rw [toTups_eq]
  simp [toTup_z, eD]
def elD (p t : List Int) : D := .list [.list (zs p), .list (zs t)]
theorem toLst_z (ns : List Int) : toLst (zD ns) = .list (zs ns) := by
  unfold zD toLst
  rw [toLsts_eq, List.map_map]
  congr 1
theorem toLst_e (p t : List Int) : toLst (eD p t) = elD p t := by
  show PyData.list (toLsts [zD p, zD t]) = _
  rw [toLsts_eq]
  simp [toLst_z, elD]
theorem toTup_el (p t : List Int) : toTup (elD p t) = eD p t := by
  have h : ∀ ns : List Int, toTup (.list (zs ns)) = zD ns := fun ns => by
    unfold toTup
    rw [toTups_eq, List.map_map]
    congr 1
  show PyData.tuple (toTups [.list (zs p), .list (zs t)]) = _
  rw [toTups_eq]
  simp [h, eD]
theorem fit_el {n : Nat} {p t : List Int} (h1 : p.length ≤ 100000) (h2 : t.length ≤ 100000) : fit (n + 2) (elD p t) = true := by
  show (decide (([.list (zs p), .list (zs t)] : List D).length ≤ 100000) && ([.list (zs p), .list (zs t)] : List D).all (fit (n + 1))) = true
  simp only [List.all_cons, List.all_nil, fit_zl h1, fit_zl h2]
  rfl
/-- an end of the machine's letters -/
structure EOk (w : Int) (p t : List Int) : Prop where
  p1 : 1 ≤ p.length
  p12 : p.length ≤ 12
  t12 : t.length ≤ 12
  pr : ∀ x ∈ p, 0 ≤ x ∧ x < w
  tr : ∀ x ∈ t, 0 ≤ x ∧ x < w
theorem isRow_z {w : Int} {p : List Int} (h : ∀ x ∈ p, 0 ≤ x ∧ x < w) : isRow w (zD p) = true := by
  show (zs p).all (inR 0 (w - 1)) = true
  simp [List.all_map, List.all_eq_true, Function.comp, inR]
  intro x hx
  have := h x hx
  omega
theorem isEnd_e {w : Int} {p t : List Int} (h : EOk w p t) : isEnd w (eD p t) = true := by
  show (isRow w (zD p) && isRow w (zD t) && (decide (1 ≤ dl (zD p)) && decide (dl (zD p) ≤ 12)) && decide (dl (zD t) ≤ 12)) = true
  have d : ∀ ns : List Int, dl (zD ns) = ns.length := fun ns => by simp [dl, zD]
  have := h.p1
  have := h.p12
  have := h.t12
  rw [isRow_z h.pr, isRow_z h.tr, d, d]
  simp
  omega
theorem ix_m0 {w : Nat} {sts : List (List Nat × List Nat)} : ixD (mD w sts) (.int 0) = some (.fr (nD w)) := rfl
theorem ix_e0 {p t : List Int} : ixD (eD p t) (.int 0) = some (.fr (zD p)) := rfl
theorem ix_e1 {p t : List Int} : ixD (eD p t) (.int 1) = some (.fr (zD t)) := rfl
abbrev SSureE (F : FnV) : Prop := ∀ (w : Nat) sts p t v, EOk (w : Int) p t → fit 3 v = true → toTup v = eD p t → F [.fr (mD w sts), .fr v] = .ok (.fr (eD p t)) [.fr (mD w sts), .fr v]
theorem v_sure_end {Φ : Fns} (ht : STup 4 (Φ "tupled")) (he : SEnd (Φ "is_end_of")) : SSureE (fnV Φ 2 1 [0, 1] t_sure_end) := by
  intro w sts p t v h hv e
  have k1 := ht v (fit_mono hv)
  rw [e] at k1
  have p1 := h.p12
  have p2 := h.t12
  have k2 := he 0 w (eD p t) (fit_e (by omega) (by omega))
  rw [isEnd_e h] at k2
  rw [fnV_eq (by simp)]
  have ix := ix_m0 (w := w) (sts := sts)
  generalize mD w sts = M at *
  generalize eD p t = E at *
  simp [t_sure_end, k1, ix, k2]
abbrev SIsEnd (F : FnV) : Prop := ∀ (w : Nat) sts d, MOk w sts → fit 3 d = true → F [.fr (mD w sts), .fr d] = .ok (.fr (.bool (isEnd w d))) [.fr (mD w sts), .fr d]
theorem v_is_end {Φ : Fns} (hm : SSureM (Φ "sure_machine")) (he : SEnd (Φ "is_end_of")) : SIsEnd (fnV Φ 2 0 [0, 1] t_is_end) := by
  intro w sts d h hd
  have k1 := hm w sts h
  have k2 := he 1 w d hd
  rw [fnV_eq (by simp)]
  have ix := ix_m0 (w := w) (sts := sts)
  generalize mD w sts = M at *
  simp [t_is_end, k1, ix, k2]
theorem add_zz {a b : List Int} (h : a.length + b.length ≤ 100000) : binD .add (zD a) (zD b) = some (.fr (zD (a ++ b))) := by
  unfold zD
  rw [add_tup (lim_le (by simpa using h))]
  simp
theorem mul_z {a : List Int} {k : Nat} (h : a.length ≤ 1000) (hk : k ≤ 1000) : binD .mul (zD a) (.int (k : Int)) = some (.fr (zD (List.replicate k a).flatten)) := by
  unfold zD
  rw [mul_tup (by simp; omega)]
  simp
theorem sl_z {a : List Int} {l h : Option Int} : slD (zD a) l h = some (.fr (.tuple (cutL (zs a) l h))) := rfl
theorem cutz_drop {a : List Int} {k : Nat} : PyData.tuple (cutL (zs a) (some (k : Int)) none) = zD (a.drop k) := by rw [cut_drop]; unfold zD zs; rw [List.map_drop]
theorem cutz_take {a : List Int} {k : Nat} : PyData.tuple (cutL (zs a) none (some (k : Int))) = zD (a.take k) := by rw [cut_take]; unfold zD zs; rw [List.map_take]
theorem len_z {a : List Int} : biD .len [zD a] = some (.fr (.int a.length)) := by unfold zD; rw [len_tup, List.length_map]
abbrev SLetters (F : FnV) : Prop := ∀ (w : Nat) sts p t v (n : Nat), MOk w sts → EOk (w : Int) p t → fit 3 v = true → toTup v = eD p t → n ≤ 40 → F [.fr (mD w sts), .fr v, .fr (.int (n : Int))] = .ok (.fr (zD (rowOf (lt p t) n))) [.fr (mD w sts), .fr v, .fr (.int (n : Int))]
theorem v_end_letters {Φ : Fns} (hm : SSureM (Φ "sure_machine")) (he : SSureE (Φ "sure_end")) (hw : SWithin (Φ "is_within")) : SLetters (fnV Φ 3 2 [0, 1, 2] t_end_letters) := by
  intro w sts p t v n h1 h2 hv e hn
  have k1 := hm w sts h1
  have k2 := he w sts p t v h2 hv e
  have k3 := hw (.int (n : Int)) 0 40 (id rfl)
  have r1 : inR 0 40 (.int (n : Int)) = true := by simp [inR]; omega
  rw [r1] at k3
  have p1 := h2.p1
  have p12 := h2.p12
  have t12 := h2.t12
  have pn : p ≠ [] := List.length_pos_iff.mp p1
  have pm : p.length * 1 ≤ p.length * (n + 1) := Nat.mul_le_mul_left _ (by omega)
  have q1 : n ≤ (n + 1) * p.length + t.length := by
    have : (n + 1) * 1 ≤ (n + 1) * p.length := Nat.mul_le_mul_left _ p1
    omega
  have lr := last_row (t := t) pn q1
  have mz := mul_z (a := p) (k := n + 1) (by omega) (by omega)
  have fl : ((List.replicate (n + 1) p).flatten).length = (n + 1) * p.length := flat_len
  have fl2 : (n + 1) * p.length ≤ 41 * 12 := Nat.mul_le_mul (by omega) p12
  have az := add_zz (a := (List.replicate (n + 1) p).flatten) (b := t) (by omega)
  have lm : binD .mul (.int (p.length : Int)) (.int ((n + 1 : Nat) : Int)) = some (.fr (.int ((p.length : Int) * ((n + 1 : Nat) : Int)))) := mul_int (by rw [small_of (i := (p.length : Int)) (by omega) (by omega)]; rfl)
  have ll : ((List.replicate (n + 1) p).flatten ++ t).length = (n + 1) * p.length + t.length := by rw [List.length_append, fl]
  have ci : (p.length : Int) * ((n + 1 : Nat) : Int) + (t.length : Int) - (n : Int) = ((((List.replicate (n + 1) p).flatten ++ t).length - n : Nat) : Int) := by
    have hc : (((n + 1) * p.length : Nat) : Int) = (p.length : Int) * ((n + 1 : Nat) : Int) := by rw [Int.natCast_mul, Int.mul_comm]
    rw [ll, ← hc]
    generalize (n + 1) * p.length = Y at *
    omega
  have cz := cutz_drop (a := (List.replicate (n + 1) p).flatten ++ t) (k := ((List.replicate (n + 1) p).flatten ++ t).length - n)
  rw [lr, ← ci] at cz
  have sl := sl_z (a := (List.replicate (n + 1) p).flatten ++ t) (l := some ((p.length : Int) * ((n + 1 : Nat) : Int) + (t.length : Int) - (n : Int))) (h := none)
  rw [cz] at sl
  have lp := len_z (a := p)
  have lt' := len_z (a := t)
  have i0 := ix_e0 (p := p) (t := t)
  have i1 := ix_e1 (p := p) (t := t)
  have c1 : (n : Int) + 1 = ((n + 1 : Nat) : Int) := by omega
  rw [fnV_eq (by simp)]
  generalize mD w sts = M at *
  generalize eD p t = E at *
  generalize zD p = P at *
  generalize zD t = TT at *
  generalize zD (List.replicate (n + 1) p).flatten = PP at *
  generalize zD ((List.replicate (n + 1) p).flatten ++ t) = PT at *
  generalize hN : ((n + 1 : Nat) : Int) = N at *
  generalize zD (rowOf (lt p t) n) = R at *
  simp [t_end_letters, k1, k2, k3, i0, i1, c1, mz, az, lp, lt', lm, sl]
/-! loops that look for a first one -/
theorem floop_first {α : Type} {tg : Tg} {b : Env → Out Fl} {g : α → D} {p : α → Bool} {r : α → Vl} {I : Env → Prop} : ∀ {ks : List α} {ρ : Env}, I ρ → (∀ k ∈ ks, ∀ ρ, I ρ → ∃ ρa, asg tg (g k) ρ = some ρa ∧ ∃ ρb, I ρb ∧ b ρa = if p k then .ok (.rt (r k)) ρb else .ok .nx ρb) →
    ∃ ρ', I ρ' ∧ floop tg b (ks.map g) ρ = match ks.find? p with
      | some k => .ok (.rt (r k)) ρ'
      | none => .ok .nx ρ'
  | [], ρ, h, _ => ⟨ρ, h, by show floop tg b [] ρ = _; unfold floop; rfl⟩
  | k :: ks, ρ, h, hk => by
    obtain ⟨ρa, h1, ρb, h2, h3⟩ := hk k List.mem_cons_self ρ h
    rw [List.map_cons, List.find?_cons]
    cases e : p k with
    | true =>
      refine ⟨ρb, h2, ?_⟩
      rw [e] at h3
      unfold floop
      rw [h1, Out.ofO_some, Out.bind_ok, h3]
      rfl
    | false =>
      rw [e] at h3
      obtain ⟨ρ', h4, h5⟩ := floop_first h2 fun x hx => hk x (List.mem_cons_of_mem _ hx)
      refine ⟨ρ', h4, ?_⟩
      unfold floop
      rw [h1, Out.ofO_some, Out.bind_ok, h3]
      exact h5
abbrev SRound (F : FnV) : Prop := ∀ p : List Int, p ≠ [] → p.length ≤ 1000 → F [.fr (zD p)] = .ok (.fr (zD (lr p))) [.fr (zD p)]
theorem rng2_ok {n : Nat} (h : n ≤ 1000000) : rngD [.int 1, .int ((n : Int) + 1)] = some ((List.range n).map fun (k : Nat) => PyData.int (1 + (k : Int))) := by
  unfold rngD
  dsimp only
  rw [if_pos (by omega)]
  rw [show ((n : Int) + 1 - 1).toNat = n by omega]
theorem rep_len {p : List Int} {k : Nat} (hk : k < p.length) (h : p.length % (k + 1) = 0) : (List.replicate (p.length / (k + 1)) (p.take (k + 1))).flatten.length = p.length := by
  rw [flat_len, List.length_take, Nat.min_eq_left (by omega)]
  exact Nat.div_mul_cancel (Nat.dvd_of_mod_eq_zero h)
theorem v_least_round {Φ : Fns} : SRound (fnV Φ 1 1 [0] t_least_round) := by
  intro p hp hl
  rw [fnV_eq (by simp)]
  have lp := len_z (a := p)
  have loop := floop_first (tg := .nm 1) (b := ex Φ b_least_round_0) (g := fun (k : Nat) => PyData.int (1 + (k : Int))) (p := fun k => decide (p.length % (k + 1) = 0 ∧ (List.replicate (p.length / (k + 1)) (p.take (k + 1))).flatten = p)) (r := fun k => Vl.fr (zD (p.take (k + 1))))
    (I := fun ρ => ∃ s, ρ = [.fr (zD p), s]) (ks := List.range p.length) (ρ := [.fr (zD p), .no]) ⟨_, rfl⟩ (by
      rintro k hk ρ ⟨s, rfl⟩
      have hk : k < p.length := by simpa using hk
      refine ⟨[.fr (zD p), .fr (.int (1 + (k : Int)))], by simp, [.fr (zD p), .fr (.int (1 + (k : Int)))], ⟨_, rfl⟩, ?_⟩
      have e1 : (1 + (k : Int)) = ((k + 1 : Nat) : Int) := by omega
      have m1 := mod_int (i := (p.length : Int)) (j := ((k + 1 : Nat) : Int)) (by omega)
      have em : (p.length : Int) % ((k + 1 : Nat) : Int) = ((p.length % (k + 1) : Nat) : Int) := by omega
      have f1 := fdiv_int (i := (p.length : Int)) (j := ((k + 1 : Nat) : Int)) (by omega)
      have ef : (p.length : Int) / ((k + 1 : Nat) : Int) = ((p.length / (k + 1) : Nat) : Int) := by omega
      rw [em] at m1
      rw [ef] at f1
      have sl := sl_z (a := p) (l := none) (h := some ((k + 1 : Nat) : Int))
      rw [cutz_take] at sl
      have hd : p.length / (k + 1) ≤ p.length := Nat.div_le_self _ _
      have mz := mul_z (a := p.take (k + 1)) (k := p.length / (k + 1)) (by rw [List.length_take]; omega) (by omega)
      rw [e1]
      by_cases c : p.length % (k + 1) = 0
      · have ez := eq_z (a := (List.replicate (p.length / (k + 1)) (p.take (k + 1))).flatten) (b := p) (by rw [rep_len hk c]; omega) (by omega)
        rw [c] at m1
        generalize zD p = P at *
        generalize zD (p.take (k + 1)) = PK at *
        generalize zD ((List.replicate (p.length / (k + 1)) (p.take (k + 1))).flatten) = PR at *
        generalize ((k + 1 : Nat) : Int) = K at *
        generalize ((p.length / (k + 1) : Nat) : Int) = Q at *
        simp [b_least_round_0, lp, m1, sl, f1, mz, ez, c]
        by_cases c2 : (List.replicate (p.length / (k + 1)) (p.take (k + 1))).flatten = p <;> simp [c2, sl]
      · have c' : ¬ ((p.length % (k + 1) : Nat) : Int) = 0 := by omega
        generalize zD p = P at *
        generalize ((p.length % (k + 1) : Nat) : Int) = Z at *
        generalize ((k + 1 : Nat) : Int) = K at *
        simp [b_least_round_0, lp, m1, c, c'])
  obtain ⟨ρ', ⟨s, rfl⟩, h⟩ := loop
  have lo : ex Φ l_least_round_1 [.fr (zD p), .no] = floop (.nm 1) (ex Φ b_least_round_0) ((List.range p.length).map fun (k : Nat) => PyData.int (1 + (k : Int))) [.fr (zD p), .no] := by
    unfold l_least_round_1
    rw [ex_forr]
    have rg := rng2_ok (n := p.length) (by omega)
    simp [lp, rg]
  rw [h] at lo
  have e : lr p = match (List.range p.length).find? fun k => decide (p.length % (k + 1) = 0 ∧ (List.replicate (p.length / (k + 1)) (p.take (k + 1))).flatten = p) with
    | some k => p.take (k + 1)
    | none => p := rfl
  rw [e]
  generalize ((List.range p.length).find? fun k => decide (p.length % (k + 1) = 0 ∧ (List.replicate (p.length / (k + 1)) (p.take (k + 1))).flatten = p)) = o at lo ⊢
  clear e h
  cases o with
  | none =>
    dsimp only at lo ⊢
    generalize zD p = P at *
    simp [t_least_round, lo]
  | some k =>
    dsimp only at lo ⊢
    generalize zD p = P at *
    simp [t_least_round, lo]
abbrev SLeastIn (F : FnV) : Prop := ∀ p t : List Int, p ≠ [] → p.length ≤ 1000 → t.length ≤ 1000 → F [.fr (eD p t)] = .ok (.fr (eD (lo p t).1 (lo p t).2)) [.fr (eD p t)]
theorem ixz0 {x : Int} {l : List Int} : ixD (zD (x :: l)) (.int 0) = some (.fr (.int x)) := ixt_nat (k := 0) rfl
theorem red_loop {Φ : Fns} {E : Sl} : ∀ {t a : List Int}, a ≠ [] → a.length ≤ 1000 → t.length ≤ 1000 → wloop (evc Φ t_least_in_end_0) (ex Φ b_least_in_end_1) [E, .fr (zD a), .fr (zD t)] = .ok .nx [E, .fr (zD (red a t).1), .fr (zD (red a t).2)]
  | [], a, ha, hl, _ => by
    have nz := ne_z (a := []) (b := []) (by simp) (by simp)
    have z0 : PyData.tuple [] = zD [] := rfl
    refine wloop_done ?_
    show evc Φ t_least_in_end_0 [E, .fr (zD a), .fr (zD [])] = .ok false [E, .fr (zD a), .fr (zD [])]
    unfold t_least_in_end_0
    generalize zD a = A at *
    rw [← z0] at nz ⊢
    simp [nz]
  | x :: t, a, ha, hl, ht => by
    obtain ⟨y, r, rfl⟩ := List.exists_cons_of_ne_nil ha
    have nz := ne_z (a := x :: t) (b := []) (by simp at ht ⊢; omega) (by simp)
    have z0 : PyData.tuple [] = zD [] := rfl
    have i1 := ixz0 (x := x) (l := t)
    have i2 := ixz0 (x := y) (l := r)
    have s1 := sl_z (a := y :: r) (l := some ((1 : Nat) : Int)) (h := none)
    rw [cutz_drop] at s1
    have s2 := sl_z (a := y :: r) (l := none) (h := some ((1 : Nat) : Int))
    rw [cutz_take] at s2
    have s3 := sl_z (a := x :: t) (l := some ((1 : Nat) : Int)) (h := none)
    rw [cutz_drop] at s3
    have az := add_zz (a := (y :: r).drop 1) (b := (y :: r).take 1) (by simp at hl ⊢; omega)
    have ce : evc Φ t_least_in_end_0 [E, .fr (zD (y :: r)), .fr (zD (x :: t))] = .ok (decide (x = y)) [E, .fr (zD (y :: r)), .fr (zD (x :: t))] := by
      unfold t_least_in_end_0
      generalize zD (y :: r) = A at *
      generalize zD (x :: t) = B at *
      rw [← z0] at nz
      simp [nz, i1, i2]
    by_cases c : x = y
    · subst c
      have be : ex Φ b_least_in_end_1 [E, .fr (zD (x :: r)), .fr (zD (x :: t))] = .ok .nx [E, .fr (zD ((x :: r).drop 1 ++ (x :: r).take 1)), .fr (zD t)] := by
        unfold b_least_in_end_1
        have z3 : zD ((x :: t).drop 1) = zD t := rfl
        rw [z3] at s3
        generalize zD (x :: r) = A at *
        generalize zD (x :: t) = B at *
        generalize zD ((x :: r).drop 1) = A1 at *
        generalize zD ((x :: r).take 1) = A2 at *
        generalize zD ((x :: r).drop 1 ++ (x :: r).take 1) = A3 at *
        have s1' : slD A (some 1) none = some (.fr A1) := s1
        have s2' : slD A none (some 1) = some (.fr A2) := s2
        have s3' : slD B (some 1) none = some (.fr (zD t)) := s3
        simp [s1', s2', s3', az]
      rw [wloop_step (by rw [ce]; simp) be]
      rw [red_loop (by simp) (by simp at hl ⊢; omega) (by simp at ht ⊢; omega)]
      have : red (x :: r) (x :: t) = red ((x :: r).drop 1 ++ (x :: r).take 1) t := by
        rw [red]
        exact if_pos rfl
      rw [this]
    · refine (wloop_done (by rw [ce]; simp [c]; exact rfl)).trans ?_
      have : red (y :: r) (x :: t) = (y :: r, x :: t) := by
        rw [red]
        exact if_neg (by simp; exact fun q => c q.symm)
      rw [this]
theorem v_least_in_end {Φ : Fns} (hr : SRound (Φ "least_round")) : SLeastIn (fnV Φ 1 2 [0] t_least_in_end) := by
  intro p t hp h1 h2
  rw [fnV_eq (by simp)]
  have k1 := hr p hp h1
  have hk : (lr p).length ≤ p.length := by
    obtain ⟨k, _, k2, _, e, _⟩ := lr_ok hp
    rw [e, List.length_take]; omega
  have i0 := ix_e0 (p := p) (t := t)
  have i1 := ix_e1 (p := p) (t := t)
  have wl := red_loop (Φ := Φ) (E := .fr (eD p t)) (t := t) (lr_ne hp) (by omega) h2
  have w2 : ex Φ w_least_in_end_2 [.fr (eD p t), .fr (zD (lr p)), .fr (zD t)] = .ok .nx [.fr (eD p t), .fr (zD (lo p t).1), .fr (zD (lo p t).2)] := by
    unfold w_least_in_end_2
    rw [ex_whl]
    exact wl
  have e : eD (lo p t).1 (lo p t).2 = .tuple [zD (lo p t).1, zD (lo p t).2] := rfl
  rw [e]
  generalize eD p t = E at *
  generalize zD p = P at *
  generalize zD t = TT at *
  generalize zD (lr p) = LP at *
  simp [t_least_in_end, i0, k1, i1, w2]
abbrev SLeast (F : FnV) : Prop := ∀ (w : Nat) sts p t, MOk w sts → EOk (w : Int) p t → F [.fr (mD w sts), .fr (eD p t)] = .ok (.fr (eD (lo p t).1 (lo p t).2)) [.fr (mD w sts), .fr (eD p t)]
theorem v_least_end {Φ : Fns} (hm : SSureM (Φ "sure_machine")) (he : SSureE (Φ "sure_end")) (hl : SLeastIn (Φ "least_in_end")) : SLeast (fnV Φ 2 1 [0, 1] t_least_end) := by
  intro w sts p t h1 h2
  have p1 := h2.p1
  have p12 := h2.p12
  have t12 := h2.t12
  have k1 := hm w sts h1
  have k2 := he w sts p t (eD p t) h2 (fit_mono (fit_e (n := 0) (by omega) (by omega))) (toTup_e p t)
  have k3 := hl p t (List.length_pos_iff.mp p1) (by omega) (by omega)
  rw [fnV_eq (by simp)]
  generalize mD w sts = M at *
  generalize eD (lo p t).1 (lo p t).2 = R at *
  generalize eD p t = E at *
  simp [t_least_end, k1, k2, k3]
/-! the law's own -/
abbrev SLast (F : FnV) : Prop := ∀ (p t : List Int) (n : Nat), p ≠ [] → p.length ≤ 1000 → t.length ≤ 1000 → n ≤ 1000 → F [.fr (eD p t), .fr (.int (n : Int))] = .ok (.fr (zD (rowOf (lt p t) n))) [.fr (eD p t), .fr (.int (n : Int))]
theorem last_loop {Φ : Fns} {p t : List Int} {n : Nat} (hp : p ≠ []) (h1 : p.length ≤ 1000) (h2 : t.length ≤ 1000) (hn : n ≤ 1000) : ∀ m k : Nat, n ≤ k * p.length + t.length + m → k * p.length + t.length ≤ 3000 → ∃ k', n ≤ k' * p.length + t.length ∧
    wloop (evc Φ t__law_last_0) (ex Φ b__law_last_1) [.fr (eD p t), .fr (.int (n : Int)), .bx (zs ((List.replicate k p).flatten ++ t))] = .ok .nx [.fr (eD p t), .fr (.int (n : Int)), .bx (zs ((List.replicate k' p).flatten ++ t))] := by
  have pp := List.length_pos_iff.mpr hp
  have i0 := ix_e0 (p := p) (t := t)
  intro m
  induction m with
  | zero =>
    intro k hk _
    refine ⟨k, by omega, wloop_done ?_⟩
    have ll : ((zs ((List.replicate k p).flatten ++ t)).length : Int) = ((k * p.length + t.length : Nat) : Int) := by rw [List.length_map, List.length_append, flat_len]
    have c : ¬ (((k * p.length + t.length : Nat) : Int) < (n : Int)) := by omega
    generalize zs ((List.replicate k p).flatten ++ t) = F at *
    generalize eD p t = E at *
    generalize k * p.length + t.length = Y at *
    unfold t__law_last_0
    simp [ll]
    omega
  | succ m ih =>
    intro k hk hb
    have ll : ((zs ((List.replicate k p).flatten ++ t)).length : Int) = ((k * p.length + t.length : Nat) : Int) := by rw [List.length_map, List.length_append, flat_len]
    by_cases c : k * p.length + t.length < n
    · have ce : evc Φ t__law_last_0 [.fr (eD p t), .fr (.int (n : Int)), .bx (zs ((List.replicate k p).flatten ++ t))] = .ok true [.fr (eD p t), .fr (.int (n : Int)), .bx (zs ((List.replicate k p).flatten ++ t))] := by
        generalize zs ((List.replicate k p).flatten ++ t) = F at *
        generalize eD p t = E at *
        generalize k * p.length + t.length = Y at *
        unfold t__law_last_0
        simp [ll]
        omega
      have be : ex Φ b__law_last_1 [.fr (eD p t), .fr (.int (n : Int)), .bx (zs ((List.replicate k p).flatten ++ t))] = .ok .nx [.fr (eD p t), .fr (.int (n : Int)), .bx (zs ((List.replicate (k + 1) p).flatten ++ t))] := by
        have lf : (zs ((List.replicate k p).flatten ++ t)).length = k * p.length + t.length := by rw [List.length_map, List.length_append, flat_len]
        have al := add_lst (a := zs p) (b := zs ((List.replicate k p).flatten ++ t)) (lim_le (by rw [lf, List.length_map]; omega))
        have e : zs ((List.replicate (k + 1) p).flatten ++ t) = zs p ++ zs ((List.replicate k p).flatten ++ t) := by
          rw [List.replicate_succ, List.flatten_cons, List.append_assoc]
          exact List.map_append
        have lz : biD .list [zD p] = some (.ow (zs p)) := rfl
        rw [e]
        generalize zs ((List.replicate k p).flatten ++ t) = F at *
        generalize zs p = ZP at *
        generalize zD p = P at *
        generalize eD p t = E at *
        unfold b__law_last_1
        simp [i0, lz, al]
      have e2 : (k + 1) * p.length = k * p.length + p.length := by rw [Nat.add_mul, Nat.one_mul]
      rw [wloop_step ce be]
      exact ih (k + 1) (by omega) (by omega)
    · refine ⟨k, by omega, wloop_done ?_⟩
      generalize zs ((List.replicate k p).flatten ++ t) = F at *
      generalize eD p t = E at *
      generalize k * p.length + t.length = Y at *
      unfold t__law_last_0
      simp [ll]
      omega
theorem v_law_last {Φ : Fns} : SLast (fnV Φ 2 1 [0, 1] t__law_last) := by
  intro p t n hp h1 h2 hn
  obtain ⟨k, hk, wl⟩ := last_loop (Φ := Φ) hp h1 h2 hn n 0 (by omega) (by omega)
  have lr := last_row (t := t) hp hk
  have z0 : zs ((List.replicate 0 p).flatten ++ t) = zs t := by simp
  rw [z0] at wl
  have w2 : ex Φ w__law_last_2 [.fr (eD p t), .fr (.int (n : Int)), .bx (zs t)] = .ok .nx [.fr (eD p t), .fr (.int (n : Int)), .bx (zs ((List.replicate k p).flatten ++ t))] := by
    unfold w__law_last_2
    rw [ex_whl]
    exact wl
  rw [fnV_eq (by simp)]
  have ll : ((zs ((List.replicate k p).flatten ++ t)).length : Int) - (n : Int) = ((((List.replicate k p).flatten ++ t).length - n : Nat) : Int) := by
    rw [List.length_map]
    have : n ≤ ((List.replicate k p).flatten ++ t).length := by rw [List.length_append, flat_len]; exact hk
    omega
  have cd : cutL (zs ((List.replicate k p).flatten ++ t)) (some (((zs ((List.replicate k p).flatten ++ t)).length : Int) - (n : Int))) none = zs (rowOf (lt p t) n) := by
    rw [ll, cut_drop, ← lr]
    exact List.map_drop.symm
  have i1 := ix_e1 (p := p) (t := t)
  have lz : biD .list [zD t] = some (.ow (zs t)) := rfl
  have zr : zD (rowOf (lt p t) n) = .tuple (zs (rowOf (lt p t) n)) := rfl
  rw [zr]
  generalize zs ((List.replicate k p).flatten ++ t) = F at *
  generalize zs (rowOf (lt p t) n) = R at *
  generalize zs t = ZT at *
  generalize zD t = TT at *
  generalize eD p t = E at *
  simp [t__law_last, i1, lz, w2, cd]
theorem row_mid {s : Nat → Int} {n a r : Nat} (h : a + r ≤ n) : ((rowOf s n).drop (n - a - r)).take r = seg s a r := by
  apply List.ext_getElem?
  intro i
  by_cases hi : i < r
  · rw [seg_get hi, List.getElem?_take, if_pos hi, List.getElem?_drop, rowOf_get (by omega)]
    congr 2
    omega
  · rw [List.getElem?_eq_none (by rw [List.length_take]; omega), List.getElem?_eq_none (by rw [seg_len]; omega)]
theorem row_end {s : Nat → Int} {n a : Nat} (h : a ≤ n) : (rowOf s n).drop (n - a) = seg s 0 a := by
  apply List.ext_getElem?
  intro i
  rw [List.getElem?_drop]
  by_cases hi : i < a
  · rw [seg_get hi, rowOf_get (by omega)]
    congr 2
    omega
  · rw [List.getElem?_eq_none (by rw [rowOf_len]; omega), List.getElem?_eq_none (by rw [seg_len]; omega)]
theorem cutz_mid {l : List Int} {a b : Nat} (h1 : a ≤ b) (h2 : b ≤ l.length) : PyData.tuple (cutL (zs l) (some (a : Int)) (some (b : Int))) = zD ((l.drop a).take (b - a)) := by
  rw [cut_mid h1 (by rw [List.length_map]; exact h2)]
  unfold zD zs
  rw [List.map_take, List.map_drop]
abbrev fitB (s : Nat → Int) (t r : Nat) : Bool := decide (rowOf (lt (seg s t r) (seg s 0 t)) 40 = rowOf s 40)
abbrev SLL (F : FnV) : Prop := ∀ (p t : List Int) (w : Int), p ≠ [] → p.length ≤ 12 → t.length ≤ 12 → F [.fr (eD p t), .fr (.int w)] = .ok (.fr (eD (lo p t).1 (lo p t).2)) [.fr (eD p t), .fr (.int w)]
theorem least_body {Φ : Fns} (hl : SLast (Φ "_law_last")) {E W x : Sl} {s : Nat → Int} {a r : Nat} (hr : 1 ≤ r) (h : a + r ≤ 40) :
    ex Φ b__law_least_0 [E, W, .fr (.int 40), .fr (zD (rowOf s 40)), .fr (.int (a : Int)), .fr (.int (r : Int)), x] =
      if fitB s a r then .ok (.rt (.fr (eD (seg s a r) (seg s 0 a)))) [E, W, .fr (.int 40), .fr (zD (rowOf s 40)), .fr (.int (a : Int)), .fr (.int (r : Int)), .fr (eD (seg s a r) (seg s 0 a))]
      else .ok .nx [E, W, .fr (.int 40), .fr (zD (rowOf s 40)), .fr (.int (a : Int)), .fr (.int (r : Int)), .fr (eD (seg s a r) (seg s 0 a))] := by
  have n1 : seg s a r ≠ [] := by rw [← List.length_pos_iff, seg_len]; omega
  have k1 := hl (seg s a r) (seg s 0 a) 40 n1 (by rw [seg_len]; omega) (by rw [seg_len]; omega) (by omega)
  have c1 : (40 : Int) - (a : Int) - (r : Int) = ((40 - a - r : Nat) : Int) := by omega
  have c2 : (40 : Int) - (a : Int) = ((40 - a : Nat) : Int) := by omega
  have s1 := sl_z (a := rowOf s 40) (l := some ((40 : Int) - (a : Int) - (r : Int))) (h := some ((40 : Int) - (a : Int)))
  rw [c1, c2, cutz_mid (by omega) (by rw [rowOf_len]; omega), show 40 - a - (40 - a - r) = r by omega, row_mid h, ← c1, ← c2] at s1
  have s2 := sl_z (a := rowOf s 40) (l := some ((40 : Int) - (a : Int))) (h := none)
  rw [c2, cutz_drop, row_end (by omega), ← c2] at s2
  have ez := eq_z (a := rowOf (lt (seg s a r) (seg s 0 a)) 40) (b := rowOf s 40) (by rw [rowOf_len]; omega) (by rw [rowOf_len]; omega)
  have et : PyData.tuple [zD (seg s a r), zD (seg s 0 a)] = eD (seg s a r) (seg s 0 a) := rfl
  have k1' : Φ "_law_last" [.fr (eD (seg s a r) (seg s 0 a)), .fr (.int 40)] = .ok (.fr (zD (rowOf (lt (seg s a r) (seg s 0 a)) 40))) [.fr (eD (seg s a r) (seg s 0 a)), .fr (.int 40)] := k1
  unfold fitB
  generalize decide (rowOf (lt (seg s a r) (seg s 0 a)) 40 = rowOf s 40) = B at *
  generalize zD (rowOf (lt (seg s a r) (seg s 0 a)) 40) = R2 at *
  generalize zD (rowOf s 40) = R at *
  rw [← et] at k1' ⊢
  generalize zD (seg s a r) = S1 at *
  generalize zD (seg s 0 a) = S2 at *
  clear k1
  cases B <;> simp [b__law_least_0, s1, s2, k1', ez]
theorem find_range {n i : Nat} {P : Nat → Bool} (hi : i < n) (h : P i = true) (k : ∀ j, j < i → P j = false) : (List.range n).find? P = some i := by
  rw [List.find?_range_eq_some]
  refine ⟨h, by simpa using hi, fun j hj => ?_⟩
  rw [k j hj]
  rfl
theorem rng1_ok {n : Nat} (h : n ≤ 1000000) : rngD [.int ((n : Int))] = some ((List.range n).map fun (k : Nat) => PyData.int (k : Int)) := by
  unfold rngD
  dsimp only
  rw [if_pos (by omega)]
  rw [show ((n : Int)).toNat = n by omega]
theorem v_law_least {Φ : Fns} (hl : SLast (Φ "_law_last")) : SLL (fnV Φ 2 5 [0, 1] t__law_least) := by
  intro p t w hp h1 h2
  have pp := List.length_pos_iff.mpr hp
  obtain ⟨s, hs⟩ : ∃ s, s = lt p t := ⟨_, rfl⟩
  have i0 := ix_e0 (p := p) (t := t)
  have i1 := ix_e1 (p := p) (t := t)
  have lp := len_z (a := p)
  have lt' := len_z (a := t)
  -- the rounds, at a tail
  have inner : ∀ (a : Nat) (x y : Sl), a ≤ 12 → ∃ x' y', ex Φ l__law_least_1 [.fr (eD p t), .fr (.int w), .fr (.int 40), .fr (zD (rowOf s 40)), .fr (.int (a : Int)), x, y] =
      match (List.range p.length).find? (fun k => fitB s a (k + 1)) with
      | some k => .ok (.rt (.fr (eD (seg s a (k + 1)) (seg s 0 a)))) [.fr (eD p t), .fr (.int w), .fr (.int 40), .fr (zD (rowOf s 40)), .fr (.int (a : Int)), x', y']
      | none => .ok .nx [.fr (eD p t), .fr (.int w), .fr (.int 40), .fr (zD (rowOf s 40)), .fr (.int (a : Int)), x', y'] := by
    intro a x y ha
    have loop := floop_first (tg := .nm 5) (b := ex Φ b__law_least_0) (g := fun (k : Nat) => PyData.int (1 + (k : Int))) (p := fun k => fitB s a (k + 1)) (r := fun k => Vl.fr (eD (seg s a (k + 1)) (seg s 0 a)))
      (I := fun ρ => ∃ x y, ρ = [.fr (eD p t), .fr (.int w), .fr (.int 40), .fr (zD (rowOf s 40)), .fr (.int (a : Int)), x, y]) (ks := List.range p.length) (ρ := [.fr (eD p t), .fr (.int w), .fr (.int 40), .fr (zD (rowOf s 40)), .fr (.int (a : Int)), x, y]) ⟨_, _, rfl⟩ (by
        rintro k hk ρ ⟨x, y, rfl⟩
        have hk : k < p.length := by simpa using hk
        refine ⟨[.fr (eD p t), .fr (.int w), .fr (.int 40), .fr (zD (rowOf s 40)), .fr (.int (a : Int)), .fr (.int (1 + (k : Int))), y], by simp, [.fr (eD p t), .fr (.int w), .fr (.int 40), .fr (zD (rowOf s 40)), .fr (.int (a : Int)), .fr (.int (1 + (k : Int))), .fr (eD (seg s a (k + 1)) (seg s 0 a))], ⟨_, _, rfl⟩, ?_⟩
        have e1 : (1 + (k : Int)) = ((k + 1 : Nat) : Int) := by omega
        rw [e1]
        exact least_body hl (by omega) (by omega))
    obtain ⟨ρ', ⟨x', y', rfl⟩, h⟩ := loop
    have l1 : ex Φ l__law_least_1 [.fr (eD p t), .fr (.int w), .fr (.int 40), .fr (zD (rowOf s 40)), .fr (.int (a : Int)), x, y] = floop (.nm 5) (ex Φ b__law_least_0) ((List.range p.length).map fun (k : Nat) => PyData.int (1 + (k : Int))) [.fr (eD p t), .fr (.int w), .fr (.int 40), .fr (zD (rowOf s 40)), .fr (.int (a : Int)), x, y] := by
      clear h
      unfold l__law_least_1
      rw [ex_forr]
      have rg := rng2_ok (n := p.length) (by omega)
      generalize eD p t = E at *
      generalize zD p = P at *
      simp [i0, lp, rg]
    refine ⟨x', y', ?_⟩
    rw [l1, h]
    cases (List.range p.length).find? (fun k => fitB s a (k + 1)) <;> rfl
  -- the tails
  have outer := floop_first (tg := .nm 4) (b := ex Φ b__law_least_2) (g := fun (a : Nat) => PyData.int (a : Int)) (p := fun a => ((List.range p.length).find? (fun k => fitB s a (k + 1))).isSome) (r := fun a => match (List.range p.length).find? (fun k => fitB s a (k + 1)) with
      | some k => Vl.fr (eD (seg s a (k + 1)) (seg s 0 a))
      | none => .fr .none) (I := fun ρ => ∃ z x y, ρ = [.fr (eD p t), .fr (.int w), .fr (.int 40), .fr (zD (rowOf s 40)), z, x, y]) (ks := List.range (t.length + 1)) (ρ := [.fr (eD p t), .fr (.int w), .fr (.int 40), .fr (zD (rowOf s 40)), .no, .no, .no]) ⟨_, _, _, rfl⟩ (by
        rintro a ha ρ ⟨z, x, y, rfl⟩
        have ha : a < t.length + 1 := by simpa using ha
        obtain ⟨x', y', e⟩ := inner a x y (by omega)
        refine ⟨[.fr (eD p t), .fr (.int w), .fr (.int 40), .fr (zD (rowOf s 40)), .fr (.int (a : Int)), x, y], by simp, [.fr (eD p t), .fr (.int w), .fr (.int 40), .fr (zD (rowOf s 40)), .fr (.int (a : Int)), x', y'], ⟨_, _, _, rfl⟩, ?_⟩
        unfold b__law_least_2
        cases hf : (List.range p.length).find? (fun k => fitB s a (k + 1)) with
        | none =>
          rw [hf] at e
          dsimp only at e
          simp [e]
        | some k =>
          rw [hf] at e
          dsimp only at e
          simp [e])
  obtain ⟨ρ', ⟨z, x, y, rfl⟩, h⟩ := outer
  -- which it is
  obtain ⟨c, el, ne, l1, l2⟩ := lo_canon (t := t) hp
  rw [← hs] at c
  have pl := List.length_pos_iff.mpr ne
  have fo : (List.range p.length).find? (fun k => fitB s (lo p t).2.length (k + 1)) = some ((lo p t).1.length - 1) := by
    refine find_range (by omega) ?_ fun j hj => ?_
    · have := fits_at (t := t) hp
      rw [← hs] at this
      rw [show (lo p t).1.length - 1 + 1 = (lo p t).1.length by omega]
      exact decide_eq_true this
    · refine decide_eq_false fun q => ?_
      have := fits_lo (t := t) hp h1 h2 (t2 := (lo p t).2.length) (r2 := j + 1) (by omega) (by omega) (Nat.le_refl _) (by rw [← hs]; exact q)
      omega
  have fr : (List.range (t.length + 1)).find? (fun a => ((List.range p.length).find? (fun k => fitB s a (k + 1))).isSome) = some (lo p t).2.length := by
    refine find_range (by omega) (by rw [fo]; rfl) fun j hj => ?_
    cases hf : (List.range p.length).find? (fun k => fitB s j (k + 1)) with
    | none => rfl
    | some k =>
      exfalso
      have q0 : fitB s j (k + 1) = true := List.find?_some (p := fun k => fitB s j (k + 1)) hf
      have q := of_decide_eq_true q0
      have hk : k < p.length := by simpa using List.mem_of_find?_eq_some hf
      have := fits_lo (t := t) hp h1 h2 (t2 := j) (r2 := k + 1) (by omega) (by omega) (by omega) (by rw [← hs]; exact q)
      omega
  rw [fr] at h
  dsimp only at h
  rw [fo] at h
  dsimp only at h
  rw [show (lo p t).1.length - 1 + 1 = (lo p t).1.length by omega] at h
  obtain ⟨g1, g2⟩ := seg_of (u := (lo p t).2) ne
  rw [el, ← hs] at g1 g2
  rw [g1, g2] at h
  have k1 := hl p t 40 hp (by omega) (by omega) (by omega)
  rw [← hs] at k1
  have k1' : Φ "_law_last" [.fr (eD p t), .fr (.int 40)] = .ok (.fr (zD (rowOf s 40))) [.fr (eD p t), .fr (.int 40)] := k1
  clear k1
  have rg : rngD [.int ((t.length : Int) + 1)] = some ((List.range (t.length + 1)).map fun (k : Nat) => PyData.int (k : Int)) := by
    have := rng1_ok (n := t.length + 1) (by omega)
    rw [Int.natCast_add] at this
    exact this
  have lo' : ex Φ l__law_least_3 [.fr (eD p t), .fr (.int w), .fr (.int 40), .fr (zD (rowOf s 40)), .no, .no, .no] = .ok (.rt (.fr (eD (lo p t).1 (lo p t).2))) [.fr (eD p t), .fr (.int w), .fr (.int 40), .fr (zD (rowOf s 40)), z, x, y] := by
    refine Eq.trans ?_ h
    unfold l__law_least_3
    rw [ex_forr]
    generalize eD p t = E at *
    generalize zD t = TT at *
    simp [i1, lt', rg]
  clear h fr fo inner
  rw [fnV_eq (by simp)]
  generalize zD (rowOf s 40) = R at *
  generalize eD (lo p t).1 (lo p t).2 = LO at *
  generalize eD p t = E at *
  simp [t__law_least, k1', lo']
end Wk
end T_LE
section T_M02
set_option maxHeartbeats 1000000
namespace Wk
open PySem
/-! ### words: a stack, the top first -/
def push (st : List Int) (k : Int) : List Int := match st with
  | [] => [k]
  | j :: r => if j = -k then r else k :: j :: r
def RedS : List Int → Prop
  | [] => True
  | [_] => True
  | k :: j :: r => j ≠ -k ∧ RedS (j :: r)
abbrev pP (acc ws : List Int) : List Int := ws.foldl push acc
abbrev stk (ws : List Int) : List Int := pP [] ws
def sh (ws : List Int) : List Int := (stk ws).reverse
def bk (ws : List Int) : List Int := (ws.map fun k => -k).reverse
theorem red_tl {k : Int} {r : List Int} (h : RedS (k :: r)) : RedS r := by
  cases r with
  | nil => trivial
  | cons j r => exact h.2
theorem push_red {st : List Int} {k : Int} (h : RedS st) : RedS (push st k) := by
  cases st with
  | nil => trivial
  | cons j r =>
    unfold push
    by_cases e : j = -k
    · simp only [e, if_true]; exact red_tl h
    · simp only [e, if_false]; exact ⟨e, h⟩
theorem push_cancel {st : List Int} {k : Int} (h : RedS st) : push (push st k) (-k) = st := by
  cases st with
  | nil => simp [push]
  | cons j r =>
    by_cases e : j = -k
    · have : push (j :: r) k = r := by simp [push, e]
      rw [this]
      cases r with
      | nil => simp [push, e]
      | cons i r =>
        have hi : i ≠ -j := h.1
        have : ¬ i = - -k := by rw [e] at hi; exact hi
        simp only [push, this, if_false, e]
    · have : push (j :: r) k = k :: j :: r := by simp [push, e]
      rw [this]
      simp [push]
theorem push_cancel' {st : List Int} {k : Int} (h : RedS st) : push (push st (-k)) k = st := by
  have := push_cancel (k := -k) h
  simpa using this
theorem pP_red : ∀ {ws acc : List Int}, RedS acc → RedS (pP acc ws)
  | [], _, h => h
  | k :: ws, _, h => pP_red (ws := ws) (push_red h)
theorem stk_red (ws : List Int) : RedS (stk ws) := pP_red trivial
theorem rev_ind {α : Type} {P : List α → Prop} (h0 : P []) (h1 : ∀ l a, P l → P (l ++ [a])) (l : List α) : P l := by
  have : ∀ m : List α, P m.reverse := by
    intro m
    induction m with
    | nil => exact h0
    | cons a m ih => rw [List.reverse_cons]; exact h1 _ _ ih
  have q := this l.reverse
  rwa [List.reverse_reverse] at q
/-- the stack of one word more -/
theorem stk_snoc (b : List Int) (k : Int) : stk (b ++ [k]) = push (stk b) k := by simp [pP, List.foldl_append]
theorem sh_snoc (b : List Int) (k : Int) : (∃ c, sh b = c ++ [-k] ∧ sh (b ++ [k]) = c) ∨ sh (b ++ [k]) = sh b ++ [k] := by
  unfold sh
  rw [stk_snoc]
  cases e : stk b with
  | nil => right; simp [push]
  | cons j r =>
    by_cases q : j = -k
    · left; exact ⟨r.reverse, by simp [q], by simp [push, q]⟩
    · right; simp [push, q]
theorem pP_sh {acc : List Int} (h : RedS acc) (b : List Int) : pP acc (sh b) = pP acc b := by
  refine rev_ind (P := fun b => pP acc (sh b) = pP acc b) rfl (fun b k ih => ?_) b
  have e : pP acc (b ++ [k]) = push (pP acc b) k := by simp [pP, List.foldl_append]
  rw [e, ← ih]
  rcases sh_snoc b k with ⟨c, h1, h2⟩ | h2
  · rw [h2, h1]
    have : pP acc (c ++ [-k]) = push (pP acc c) (-k) := by simp [pP, List.foldl_append]
    rw [this, push_cancel' (pP_red h)]
  · rw [h2]
    simp [pP, List.foldl_append]
theorem pP_eq {acc a b : List Int} (h : RedS acc) (e : stk a = stk b) : pP acc a = pP acc b := by
  rw [← pP_sh h a, ← pP_sh h b]
  unfold sh
  rw [e]
theorem stk_sh (a : List Int) : stk (sh a) = stk a := pP_sh (acc := []) trivial a
theorem sh_sh (a : List Int) : sh (sh a) = sh a := by unfold sh; rw [show stk (stk a).reverse = stk a from stk_sh a]
theorem stk_app (a b : List Int) : stk (a ++ b) = pP (stk a) b := by simp [pP, List.foldl_append]
theorem stk_app_eq {a a' b b' : List Int} (h : stk a = stk a') (e : stk b = stk b') : stk (a ++ b) = stk (a' ++ b') := by
  rw [stk_app, stk_app, h]
  exact pP_eq (stk_red _) e
theorem sh_app_eq {a a' b b' : List Int} (h : stk a = stk a') (e : stk b = stk b') : sh (a ++ b) = sh (a' ++ b') := by unfold sh; rw [stk_app_eq h e]
theorem sh_of_stk {a b : List Int} (h : stk a = stk b) : sh a = sh b := by unfold sh; rw [h]
theorem stk_of_sh {a b : List Int} (h : sh a = sh b) : stk a = stk b := by rw [← stk_sh a, ← stk_sh b, h]
theorem mem_push {st : List Int} {k j : Int} (h : j ∈ push st k) : j = k ∨ j ∈ st := by
  cases st with
  | nil => simpa [push] using h
  | cons i r =>
    unfold push at h
    by_cases e : i = -k
    · simp only [e, if_true] at h; exact .inr (List.mem_cons_of_mem _ h)
    · simp only [e, if_false] at h; simpa using h
theorem mem_stk {a : List Int} {j : Int} : j ∈ stk a → j ∈ a := by
  have : ∀ (ws acc : List Int), j ∈ pP acc ws → j ∈ acc ∨ j ∈ ws := by
    intro ws
    induction ws with
    | nil => intro acc h; exact .inl h
    | cons k ws ih =>
      intro acc h
      rcases ih (push acc k) h with q | q
      · rcases mem_push q with rfl | q
        · exact .inr List.mem_cons_self
        · exact .inl q
      · exact .inr (List.mem_cons_of_mem _ q)
  intro h
  rcases this a [] h with q | q
  · cases q
  · exact q
theorem mem_sh {a : List Int} {j : Int} (h : j ∈ sh a) : j ∈ a := mem_stk (by simpa [sh] using h)
theorem sh_len (a : List Int) : (sh a).length ≤ a.length := by
  refine rev_ind (P := fun a => (sh a).length ≤ a.length) (Nat.le_refl _) (fun b k ih => ?_) a
  rcases sh_snoc b k with ⟨c, h1, h2⟩ | h2
  · rw [h2]; rw [h1] at ih; simp at ih ⊢; omega
  · rw [h2]; simp; exact ih
/-! backs -/
theorem bk_snoc (a : List Int) (k : Int) : bk (a ++ [k]) = -k :: bk a := by simp [bk]
theorem bk_app (a b : List Int) : bk (a ++ b) = bk b ++ bk a := by simp [bk]
theorem bk_bk (a : List Int) : bk (bk a) = a := by
  simp only [bk, List.map_reverse, List.reverse_reverse, List.map_map]
  conv => rhs; rw [← List.map_id a]
  exact List.map_congr_left fun k _ => by simp
theorem stk_bk_sh (a : List Int) : stk (bk (sh a)) = stk (bk a) := by
  refine rev_ind (P := fun a => stk (bk (sh a)) = stk (bk a)) rfl (fun b k ih => ?_) a
  have e1 : stk (bk (b ++ [k])) = pP [-k] (bk (sh b)) := by
    rw [bk_snoc]
    show pP (push [] (-k)) (bk b) = _
    exact (pP_eq (acc := [-k]) trivial ih).symm
  rw [e1]
  rcases sh_snoc b k with ⟨c, h1, h2⟩ | h2
  · rw [h2, h1, bk_snoc]
    show _ = pP (push [-k] (- -k)) (bk c)
    have : push [-k] (- -k) = [] := by simp [push]
    rw [this]
  · rw [h2, bk_snoc]
    rfl
theorem stk_bk {a b : List Int} (h : stk a = stk b) : stk (bk a) = stk (bk b) := by
  rw [← stk_bk_sh a, ← stk_bk_sh b, sh_of_stk h]
theorem pP_neg : ∀ {s acc : List Int}, RedS s → (∀ h r t q, s = h :: r → acc = t :: q → t ≠ h) → pP acc (s.map fun k => -k) = (s.map fun k => -k).reverse ++ acc
  | [], acc, _, _ => by simp
  | h :: r, acc, hr, hd => by
    have e : push acc (-h) = -h :: acc := by
      cases acc with
      | nil => rfl
      | cons t q =>
        have := hd h r t q rfl rfl
        simp [push, this]
    show pP (push acc (-h)) (r.map fun k => -k) = _
    rw [e, pP_neg (red_tl hr) (fun h' r' t q e1 e2 => ?_)]
    · simp
    · cases e2
      subst e1
      exact fun z => hr.1 z.symm
theorem sh_bk (a : List Int) : sh (bk a) = bk (sh a) := by
  have h1 : stk (bk a) = stk (bk (sh a)) := (stk_bk_sh a).symm
  have h2 : bk (sh a) = (stk a).map fun k => -k := by simp [bk, sh]
  unfold sh
  rw [h1, h2]
  have := pP_neg (acc := []) (stk_red a) (fun _ _ _ _ _ z => nomatch z)
  rw [show stk ((stk a).map fun k => -k) = ((stk a).map fun k => -k).reverse ++ [] from this]
  simp [bk]
/-! ### a machine's action -/
section
variable (sts : List (List Nat × List Nat))
abbrev stAt (k : Int) : List Nat × List Nat := sts.getD (k.natAbs - 1) ([], [])
def one (k : Int) (x : Nat) : Nat × Int := if 0 < k then ((stAt sts k).1.getD x 0, ((stAt sts k).2.getD x 0 : Int) + 1) else ((stAt sts k).1.idxOf x, -((stAt sts k).2.getD ((stAt sts k).1.idxOf x) 0 : Int) - 1)
def raw : List Int → Nat → Nat × List Int
  | [], x => (x, [])
  | k :: ws, x => ((raw ws (one sts k x).1).1, (one sts k x).2 :: (raw ws (one sts k x).1).2)
def led (ws : List Int) : List Nat → List Nat × List Int
  | [] => ([], ws)
  | x :: r => ((raw sts ws x).1 :: (led (raw sts ws x).2 r).1, (led (raw sts ws x).2 r).2)
/-- as the program goes: shortened at each letter -/
def plf (here : List Int) : List Nat → List Nat × List Int
  | [] => ([], here)
  | x :: r => ((raw sts here x).1 :: (plf (sh (raw sts here x).2) r).1, (plf (sh (raw sts here x).2) r).2)
def WOk (m : Nat) (ws : List Int) : Prop := ∀ k ∈ ws, k ≠ 0 ∧ k.natAbs ≤ m
def ROk (w : Nat) (row : List Nat) : Prop := ∀ x ∈ row, x < w
end
variable {w : Nat} {sts : List (List Nat × List Nat)}
theorem stAt_mem {k : Int} (h0 : k ≠ 0) (h : k.natAbs ≤ sts.length) : stAt sts k ∈ sts := by
  have hl : k.natAbs - 1 < sts.length := by omega
  unfold stAt
  rw [List.getD_eq_getElem?_getD, List.getElem?_eq_getElem hl]
  exact List.getElem_mem hl
theorem getD_lt {l : List Nat} {x d : Nat} (h : x < l.length) : l[x]? = some (l.getD x d) := by
  rw [List.getD_eq_getElem?_getD, List.getElem?_eq_getElem h]; rfl
theorem getD_mem {l : List Nat} {x d : Nat} (h : x < l.length) : l.getD x d ∈ l := List.mem_of_getElem? (getD_lt h)
theorem perm_lt {o : List Nat} {x : Nat} (h : o.Perm (List.range w)) (hx : x ∈ o) : x < w := List.mem_range.mp (h.mem_iff.mp hx)
theorem one_ok (M : MOk w sts) {k : Int} {x : Nat} (h0 : k ≠ 0) (h : k.natAbs ≤ sts.length) (hx : x < w) : (one sts k x).1 < w ∧ (one sts k x).2 ≠ 0 ∧ (one sts k x).2.natAbs ≤ sts.length := by
  have hm := stAt_mem h0 h
  have ho := M.outs _ hm
  have hn := M.nlen _ hm
  have hk := M.nexts _ hm
  have ol : (stAt sts k).1.length = w := by rw [ho.length_eq, List.length_range]
  unfold one
  by_cases q : 0 < k
  · rw [if_pos q]
    have h1 := perm_lt ho (getD_mem (d := 0) (show x < (stAt sts k).1.length by omega))
    have h2 := hk _ (getD_mem (d := 0) (show x < (stAt sts k).2.length by omega))
    exact ⟨h1, by dsimp only; omega, by dsimp only; omega⟩
  · rw [if_neg q]
    have hy : (stAt sts k).1.idxOf x < w := by
      rw [← ol]
      exact List.idxOf_lt_length_of_mem (ho.mem_iff.mpr (List.mem_range.mpr hx))
    have h2 := hk _ (getD_mem (d := 0) (show (stAt sts k).1.idxOf x < (stAt sts k).2.length by omega))
    exact ⟨hy, by dsimp only; omega, by dsimp only; omega⟩
theorem one_inv (M : MOk w sts) {k : Int} {x : Nat} (h0 : k ≠ 0) (h : k.natAbs ≤ sts.length) (hx : x < w) : one sts (-k) (one sts k x).1 = (x, -(one sts k x).2) := by
  have hm := stAt_mem h0 h
  have ho := M.outs _ hm
  have ol : (stAt sts k).1.length = w := by rw [ho.length_eq, List.length_range]
  have nd : (stAt sts k).1.Nodup := ho.nodup_iff.mpr List.nodup_range
  have e : stAt sts (-k) = stAt sts k := by unfold stAt; rw [Int.natAbs_neg]
  unfold one
  rw [e]
  by_cases q : 0 < k
  · have q' : ¬ 0 < -k := by omega
    rw [if_pos q, if_neg q']
    have h1 : (stAt sts k).1.idxOf ((stAt sts k).1.getD x 0) = x := by
      have hl : x < (stAt sts k).1.length := by omega
      rw [List.getD_eq_getElem?_getD, List.getElem?_eq_getElem hl]
      exact nd.idxOf_getElem x hl
    rw [h1]
    exact Prod.ext rfl (by dsimp only; omega)
  · have q' : 0 < -k := by omega
    rw [if_neg q, if_pos q']
    have hy : (stAt sts k).1.idxOf x < (stAt sts k).1.length := List.idxOf_lt_length_of_mem (ho.mem_iff.mpr (List.mem_range.mpr hx))
    have h1 : (stAt sts k).1.getD ((stAt sts k).1.idxOf x) 0 = x := by
      rw [List.getD_eq_getElem?_getD, List.getElem?_eq_getElem hy]
      exact List.getElem_idxOf hy
    rw [h1]
    exact Prod.ext rfl (by dsimp only; omega)
theorem WOk.tl {m : Nat} {k : Int} {ws : List Int} (h : WOk m (k :: ws)) : WOk m ws := fun j hj => h j (List.mem_cons_of_mem _ hj)
theorem WOk.app {m : Nat} {a b : List Int} (h : WOk m a) (h' : WOk m b) : WOk m (a ++ b) := fun j hj => (List.mem_append.mp hj).elim (h j) (h' j)
theorem WOk.left {m : Nat} {a b : List Int} (h : WOk m (a ++ b)) : WOk m a := fun j hj => h j (List.mem_append_left _ hj)
theorem WOk.right {m : Nat} {a b : List Int} (h : WOk m (a ++ b)) : WOk m b := fun j hj => h j (List.mem_append_right _ hj)
theorem WOk.sh {m : Nat} {a : List Int} (h : WOk m a) : WOk m (sh a) := fun j hj => h j (mem_sh hj)
theorem WOk.bk {m : Nat} {a : List Int} (h : WOk m a) : WOk m (bk a) := fun j hj => by
  simp only [Wk.bk, List.mem_reverse, List.mem_map] at hj
  obtain ⟨i, hi, rfl⟩ := hj
  have := h i hi
  omega
theorem raw_len : ∀ (a : List Int) (x : Nat), (raw sts a x).2.length = a.length
  | [], _ => rfl
  | k :: a, x => by show (raw sts a _).2.length + 1 = _; rw [raw_len a]; rfl
theorem raw_ok (M : MOk w sts) : ∀ {a : List Int} {x : Nat}, WOk sts.length a → x < w → (raw sts a x).1 < w ∧ WOk sts.length (raw sts a x).2
  | [], x, _, hx => ⟨hx, fun j hj => by cases hj⟩
  | k :: a, x, ha, hx => by
    obtain ⟨h1, h2, h3⟩ := one_ok M (ha k List.mem_cons_self).1 (ha k List.mem_cons_self).2 hx
    obtain ⟨h4, h5⟩ := raw_ok M ha.tl h1
    refine ⟨h4, fun j hj => ?_⟩
    rcases List.mem_cons.mp (show j ∈ (one sts k x).2 :: (raw sts a (one sts k x).1).2 from hj) with rfl | q
    · exact ⟨h2, h3⟩
    · exact h5 j q
theorem raw_app : ∀ (a b : List Int) (x : Nat), raw sts (a ++ b) x = ((raw sts b (raw sts a x).1).1, (raw sts a x).2 ++ (raw sts b (raw sts a x).1).2)
  | [], b, x => rfl
  | k :: a, b, x => by
    show ((raw sts (a ++ b) _).1, (one sts k x).2 :: (raw sts (a ++ b) _).2) = _
    rw [raw_app a b]
    rfl
theorem raw_one (k : Int) (x : Nat) : raw sts [k] x = ((one sts k x).1, [(one sts k x).2]) := rfl
theorem raw_sh (M : MOk w sts) {x : Nat} (hx : x < w) (a : List Int) : WOk sts.length a → (raw sts (sh a) x).1 = (raw sts a x).1 ∧ stk (raw sts (sh a) x).2 = stk (raw sts a x).2 := by
  refine rev_ind (P := fun a => WOk sts.length a → (raw sts (sh a) x).1 = (raw sts a x).1 ∧ stk (raw sts (sh a) x).2 = stk (raw sts a x).2) (fun _ => ⟨rfl, rfl⟩) (fun b k ih hb => ?_) a
  obtain ⟨i1, i2⟩ := ih hb.left
  have hk := hb k (by simp)
  rw [raw_app b [k], raw_one]
  rcases sh_snoc b k with ⟨c, h1, h2⟩ | h2
  · rw [h2]
    rw [h1, raw_app, raw_one] at i1 i2
    dsimp only at i1 i2
    have hc : WOk sts.length c := by
      have := hb.left.sh
      rw [h1] at this
      exact this.left
    have hz := (raw_ok M hc hx).1
    have inv := one_inv M (k := -k) (by omega) (by omega) hz
    rw [Int.neg_neg] at inv
    rw [← i1, inv]
    refine ⟨rfl, ?_⟩
    dsimp only
    rw [stk_snoc, ← i2, stk_snoc, push_cancel (stk_red _)]
  · rw [h2, raw_app, raw_one]
    rw [i1]
    exact ⟨rfl, stk_app_eq i2 rfl⟩
theorem raw_sim (M : MOk w sts) {a b : List Int} {x : Nat} (hx : x < w) (ha : WOk sts.length a) (hb : WOk sts.length b) (e : stk a = stk b) : (raw sts a x).1 = (raw sts b x).1 ∧ stk (raw sts a x).2 = stk (raw sts b x).2 := by
  obtain ⟨h1, h2⟩ := raw_sh M hx a ha
  obtain ⟨h3, h4⟩ := raw_sh M hx b hb
  rw [sh_of_stk e] at h1 h2
  exact ⟨h1.symm.trans h3, h2.symm.trans h4⟩
theorem led_ok (M : MOk w sts) : ∀ {r : List Nat} {a : List Int}, WOk sts.length a → ROk w r → ROk w (led sts a r).1 ∧ WOk sts.length (led sts a r).2 ∧ (led sts a r).1.length = r.length ∧ (led sts a r).2.length = a.length
  | [], a, ha, _ => ⟨fun x hx => (by cases hx), ha, rfl, rfl⟩
  | x :: r, a, ha, hr => by
    obtain ⟨h1, h2⟩ := raw_ok M ha (hr x List.mem_cons_self)
    obtain ⟨h3, h4, h5, h6⟩ := led_ok M h2 (fun y hy => hr y (List.mem_cons_of_mem _ hy))
    refine ⟨fun y hy => ?_, h4, ?_, ?_⟩
    · rcases List.mem_cons.mp (show y ∈ (raw sts a x).1 :: (led sts (raw sts a x).2 r).1 from hy) with rfl | q
      · exact h1
      · exact h3 y q
    · show (led sts _ r).1.length + 1 = _; rw [h5]; rfl
    · show (led sts _ r).2.length = _; rw [h6, raw_len]
theorem ROk.tl {x : Nat} {r : List Nat} (h : ROk w (x :: r)) : ROk w r := fun y hy => h y (List.mem_cons_of_mem _ hy)
theorem led_sim (M : MOk w sts) : ∀ {r : List Nat} {a b : List Int}, WOk sts.length a → WOk sts.length b → ROk w r → stk a = stk b → (led sts a r).1 = (led sts b r).1 ∧ stk (led sts a r).2 = stk (led sts b r).2
  | [], a, b, _, _, _, e => ⟨rfl, e⟩
  | x :: r, a, b, ha, hb, hr, e => by
    have hx := hr x List.mem_cons_self
    obtain ⟨h1, h2⟩ := raw_sim M hx ha hb e
    obtain ⟨h3, h4⟩ := led_sim M (raw_ok M ha hx).2 (raw_ok M hb hx).2 hr.tl h2
    exact ⟨by show (raw sts a x).1 :: _ = (raw sts b x).1 :: _; rw [h1, h3], h4⟩
theorem plf_eq (M : MOk w sts) : ∀ {r : List Nat} {a : List Int}, WOk sts.length a → ROk w r → plf sts (sh a) r = ((led sts a r).1, sh (led sts a r).2)
  | [], a, _, _ => rfl
  | x :: r, a, ha, hr => by
    have hx := hr x List.mem_cons_self
    obtain ⟨h1, h2⟩ := raw_sh M hx a ha
    show ((raw sts (sh a) x).1 :: (plf sts (sh (raw sts (sh a) x).2) r).1, (plf sts (sh (raw sts (sh a) x).2) r).2) = _
    rw [sh_of_stk h2, plf_eq M (raw_ok M ha hx).2 hr.tl, h1]
    rfl
theorem led_app : ∀ (r : List Nat) (a b : List Int), led sts (a ++ b) r = ((led sts b (led sts a r).1).1, (led sts a r).2 ++ (led sts b (led sts a r).1).2)
  | [], a, b => rfl
  | x :: r, a, b => by
    show ((raw sts (a ++ b) x).1 :: (led sts (raw sts (a ++ b) x).2 r).1, (led sts (raw sts (a ++ b) x).2 r).2) = _
    rw [raw_app, led_app r]
    rfl
theorem raw_bk (M : MOk w sts) : ∀ {a : List Int} {x : Nat}, WOk sts.length a → x < w → raw sts (bk a) (raw sts a x).1 = (x, bk (raw sts a x).2)
  | [], x, _, _ => rfl
  | k :: a, x, ha, hx => by
    have hk := ha k List.mem_cons_self
    have h1 := (one_ok M hk.1 hk.2 hx).1
    have e : bk (k :: a) = bk a ++ [-k] := by simp [bk]
    have ih := raw_bk M ha.tl h1
    have inv := one_inv M hk.1 hk.2 hx
    rw [show raw sts (k :: a) x = ((raw sts a (one sts k x).1).1, (one sts k x).2 :: (raw sts a (one sts k x).1).2) from rfl, e, raw_app, raw_one]
    dsimp only
    rw [ih]
    dsimp only
    rw [inv]
    simp [bk]
theorem led_bk (M : MOk w sts) : ∀ {r : List Nat} {a : List Int}, WOk sts.length a → ROk w r → led sts (bk a) (led sts a r).1 = (r, bk (led sts a r).2)
  | [], a, _, _ => rfl
  | x :: r, a, ha, hr => by
    have hx := hr x List.mem_cons_self
    show ((raw sts (bk a) (raw sts a x).1).1 :: (led sts (raw sts (bk a) (raw sts a x).1).2 (led sts (raw sts a x).2 r).1).1, (led sts (raw sts (bk a) (raw sts a x).1).2 (led sts (raw sts a x).2 r).1).2) = _
    rw [raw_bk M ha hx]
    dsimp only
    rw [led_bk M (raw_ok M ha hx).2 hr.tl]
    rfl
theorem led_cut : ∀ (u v : List Nat) (a : List Int), led sts a (u ++ v) = ((led sts a u).1 ++ (led sts (led sts a u).2 v).1, (led sts (led sts a u).2 v).2)
  | [], v, a => rfl
  | x :: u, v, a => by
    show ((raw sts a x).1 :: (led sts (raw sts a x).2 (u ++ v)).1, (led sts (raw sts a x).2 (u ++ v)).2) = _
    rw [led_cut u v]
    rfl
/-- the law's: number by number -/
def lawLed (sts : List (List Nat × List Nat)) (ws : List Int) (r : List Nat) : List Nat := ws.foldl (fun r k => (led sts [k] r).1) r
theorem led_nil : ∀ r : List Nat, led sts [] r = (r, [])
  | [] => rfl
  | x :: r => by show (x :: (led sts [] r).1, (led sts [] r).2) = _; rw [led_nil r]
theorem lawLed_eq : ∀ (ws : List Int) (r : List Nat), lawLed sts ws r = (led sts ws r).1
  | [], r => by show r = _; rw [led_nil]
  | k :: ws, r => by
    show lawLed sts ws (led sts [k] r).1 = _
    rw [lawLed_eq ws, show k :: ws = [k] ++ ws from rfl, led_app]
end Wk
end T_M02
section T_LG
set_option maxHeartbeats 1000000
namespace Wk
open PySem
/-! more for simp -/
def kindO : Option D → Option Rk
  | some (.list _) => some .l
  | some (.tuple _) => some .t
  | _ => none
@[simp] theorem kindO_l {xs : List D} : kindO (some (.list xs)) = some .l := id rfl
@[simp] theorem kindO_t {xs : List D} : kindO (some (.tuple xs)) = some .t := id rfl
def idxK (k : Option Rk) (v : Vl) (b : Env → Out Vl) (ρ : Env) : Out Vl := match k with
  | some k => (b ρ).bind fun u ρ2 => two (idxD k) v u ρ2
  | none => .stuck
@[simp] theorem idxK_some {k : Rk} {v : Vl} {b : Env → Out Vl} {ρ : Env} : idxK (some k) v b ρ = (b ρ).bind fun u ρ2 => two (idxD k) v u ρ2 := id rfl
theorem kindV_eq {v : Vl} {ρ : Env} : kindV v ρ = kindO (v.lay.data ρ) := by
  unfold kindV kindO
  cases v.lay.data ρ with
  | none => rfl
  | some d => cases d <;> rfl
@[simp ↓] theorem ev_idx {Φ : Fns} {a b : T} {ρ : Env} : ev Φ (.idx a b) ρ = (ev Φ a ρ).bind fun v ρ1 => idxK (kindO (v.lay.data ρ1)) v (ev Φ b) ρ1 := by
  show ((ev Φ a ρ).bind fun v ρ1 => match kindV v ρ1 with
    | some k => (ev Φ b ρ1).bind fun u ρ2 => two (idxD k) v u ρ2
    | none => .stuck) = _
  refine congrArg (fun f => (ev Φ a ρ).bind f) ?_
  funext v ρ1
  rw [kindV_eq]
  cases kindO (v.lay.data ρ1) <;> rfl
def revO (o : Option D) (ρ : Env) : Out Vl := match o with
  | some x => Out.ofO (revD x) ρ
  | none => .stuck
@[simp] theorem revO_some {d : D} {ρ : Env} : revO (some d) ρ = Out.ofO (revD d) ρ := id rfl
@[simp] theorem revD_l {xs : List D} : revD (.list xs) = some (.ow xs.reverse) := id rfl
@[simp] theorem revD_t {xs : List D} : revD (.tuple xs) = some (.fr (.tuple xs.reverse)) := id rfl
@[simp ↓] theorem ev_rev {Φ : Fns} {a : T} {ρ : Env} : ev Φ (.rev a) ρ = (ev Φ a ρ).bind fun v ρ1 => revO (v.lay.dataR ρ1) ρ1 := by
  show (ev Φ a ρ).bind revV = _
  refine congrArg (fun f => (ev Φ a ρ).bind f) ?_
  funext v ρ1
  unfold revV revO
  cases v.lay.dataR ρ1 <;> rfl
def methS (m : Me) (i : Nat) (vs : List D) (s : Option Sl) (ρ : Env) : Out Vl := match s with
  | some (.bx ds) => match methD m ds vs with
    | some (r, ds') => .ok r (ρ.set i (.bx ds'))
    | none => .stuck
  | _ => .stuck
def methR (i : Nat) (o : Option (Vl × List D)) (ρ : Env) : Out Vl := match o with
  | some (r, ds') => .ok r (ρ.set i (.bx ds'))
  | none => .stuck
@[simp] theorem methV_eq {m : Me} {i : Nat} {vs : List D} {ρ : Env} : methV m i vs ρ = methS m i vs ρ[i]? ρ := by
  unfold methV methS
  cases ρ[i]? with
  | none => rfl
  | some s => cases s <;> rfl
@[simp] theorem methS_bx {m : Me} {i : Nat} {vs : List D} {ds : List D} {ρ : Env} : methS m i vs (some (.bx ds)) ρ = methR i (methD m ds vs) ρ := by
  unfold methS methR
  rfl
@[simp] theorem methR_some {i : Nat} {r : Vl} {ds : List D} {ρ : Env} : methR i (some (r, ds)) ρ = .ok r (ρ.set i (.bx ds)) := id rfl
theorem app_ok {ds : List D} {d : D} (h : ds.length < LIM) : methD .append ds [d] = some (.fr .none, ds ++ [d]) := if_pos h
theorem ext_ok {ds es : List D} (h : ds.length + es.length ≤ LIM) : methD .extend ds [.list es] = some (.fr .none, ds ++ es) := if_pos h
theorem popAt_ok {ds : List D} {k : Nat} {d : D} (h : ds[k]? = some d) (hk : k < 100000) : methD .popAt ds [.int (k : Int)] = some (.fr d, ds.eraseIdx k) := by
  unfold methD
  simp only []
  rw [if_pos (by omega)]
  simp [h]
/-! turns, counted, with what they gather -/
theorem floop_fold {α β : Type} {tg : Tg} {b : Env → Out Fl} {g : β → D} {f : α → β → α} {I : Nat → α → Env → Prop} : ∀ {ks : List β} {n : Nat} {s : α} {ρ : Env}, I n s ρ →
    (∀ k ∈ ks, ∀ j s ρ, j < n + ks.length → I j s ρ → ∃ ρa, asg tg (g k) ρ = some ρa ∧ ∃ ρb, b ρa = .ok .nx ρb ∧ I (j + 1) (f s k) ρb) → ∃ ρ', floop tg b (ks.map g) ρ = .ok .nx ρ' ∧ I (n + ks.length) (ks.foldl f s) ρ'
  | [], n, s, ρ, h, _ => ⟨ρ, by show floop tg b [] ρ = _; unfold floop; rfl, h⟩
  | k :: ks, n, s, ρ, h, q => by
    obtain ⟨ρa, h1, ρb, h2, h3⟩ := q k List.mem_cons_self n s ρ (by simp) h
    obtain ⟨ρ', h4, h5⟩ := floop_fold h3 fun x hx j s ρ hj => q x (List.mem_cons_of_mem _ hx) j s ρ (by simp at hj ⊢; omega)
    refine ⟨ρ', ?_, by rw [List.length_cons, show n + (ks.length + 1) = n + 1 + ks.length by omega]; exact h5⟩
    show floop tg b (g k :: ks.map g) ρ = _
    unfold floop
    rw [h1, Out.ofO_some, Out.bind_ok, h2, Out.bind_ok]
    exact h4
theorem floop_invN {tg : Tg} {b : Env → Out Fl} {I : Nat → Env → Prop} {ds : List D} {k : Nat} {ρ : Env} (h : I k ρ) (q : ∀ d ∈ ds, ∀ j ρ, j < k + ds.length → I j ρ → ∃ ρa, asg tg d ρ = some ρa ∧ ∃ ρb, b ρa = .ok .nx ρb ∧ I (j + 1) ρb) :
    ∃ ρ', floop tg b ds ρ = .ok .nx ρ' ∧ I (k + ds.length) ρ' := by
  obtain ⟨ρ', h1, h2⟩ := floop_fold (α := Unit) (g := fun d : D => d) (f := fun s _ => s) (I := fun j _ ρ => I j ρ) (ks := ds) (n := k) (s := ()) h fun d hd j _ ρ hj hI => q d hd j ρ hj hI
  rw [List.map_id'] at h1
  exact ⟨ρ', h1, h2⟩
theorem cloop_invN {own : List Nat} {tg : Tg} {c : Env → Out Bool} {e : Env → Out D} {I : Nat → Env → Prop} {P : D → Prop} : ∀ {ds acc : List D} {k : Nat} {ρ : Env}, I k ρ → (∀ d ∈ ds, ∀ j ρ, j < k + ds.length → I j ρ → ∃ ρa, asg tg d (wipeE ρ own) = some ρa ∧ c ρa = .ok true ρa ∧ ∃ y ρb, e ρa = .ok y ρb ∧ P y ∧ I (j + 1) (wipeE ρb own)) → acc.length + ds.length ≤ LIM →
    ∃ ys ρ', cloop own tg c e ds acc ρ = .ok (acc ++ ys) ρ' ∧ ys.length = ds.length ∧ (∀ y ∈ ys, P y) ∧ I (k + ds.length) ρ'
  | [], acc, k, ρ, h, _, _ => ⟨[], ρ, by unfold cloop; simp, rfl, by simp, h⟩
  | d :: ds, acc, k, ρ, h, q, hl => by
    obtain ⟨ρa, h1, h2, y, ρb, h3, h4, h5⟩ := q d List.mem_cons_self k ρ (by simp) h
    rw [List.length_cons] at hl
    obtain ⟨ys, ρ', h6, h7, h8, h9⟩ := cloop_invN (acc := acc ++ [y]) h5 (fun x hx j ρ hj => q x (List.mem_cons_of_mem _ hx) j ρ (by simp at hj ⊢; omega)) (by rw [List.length_append]; simp; omega)
    refine ⟨y :: ys, ρ', ?_, by simp [h7], ?_, by rw [List.length_cons, show k + (ds.length + 1) = k + 1 + ds.length by omega]; exact h9⟩
    · unfold cloop
      rw [h1, Out.ofO_some, Out.bind_ok, h2, Out.bind_ok, if_pos rfl, h3, Out.bind_ok, if_pos (by omega), h6]
      simp
    · intro z hz
      rcases List.mem_cons.mp hz with rfl | q
      · exact h4
      · exact h8 z q
theorem ev_comp_invN {Φ : Fns} {tg : Tg} {own : List Nat} {it c e : T} {ρ ρ1 : Env} {ds : List D} {I : Nat → Env → Prop} {P : D → Prop} {k : Nat} (hi : evi Φ it ρ = .ok ds ρ1) (h0 : I k (wipeE ρ1 own)) (hl : ds.length ≤ LIM)
    (h : ∀ d ∈ ds, ∀ j ρ, j < k + ds.length → I j ρ → ∃ ρa, asg tg d (wipeE ρ own) = some ρa ∧ evc Φ c ρa = .ok true ρa ∧ ∃ y ρb, ((ev Φ e ρa).bind fun v r1 => v.fz r1) = .ok y ρb ∧ P y ∧ I (j + 1) (wipeE ρb own)) :
    ∃ ys ρ', ev Φ (.comp tg own it c e) ρ = .ok (.ow ys) (backE ρ1 ρ' own) ∧ ys.length = ds.length ∧ (∀ y ∈ ys, P y) ∧ I (k + ds.length) ρ' := by
  obtain ⟨ys, ρ', h1, h2, h3, h4⟩ := cloop_invN (own := own) (tg := tg) (c := fun r => evc Φ c r) (e := fun r => (ev Φ e r).bind fun v r1 => v.fz r1) (acc := []) (P := P) h0 h (by simpa using hl)
  refine ⟨ys, ρ', ?_, h2, h3, h4⟩
  rw [ev_comp, hi]
  simp only [Out.bind_ok]
  rw [h1]
  rfl
/-! terms (printed) -/
def e_is_word_of_0 : T := (.and (.cmp .ne (.var 3) (.lit (.int 0))) (.cmp .le (.bi .abs (.cons (.var 3) .nil)) (.var 2)))
def c_is_word_of_1 : T := (.comp (.nm 3) [3] (.dat (.var 1)) .nil e_is_word_of_0)
def t_is_word_of : T := (.seq (.set 2 (.bi .len (.cons (.ix (.var 0) (.lit (.int 1))) .nil))) (.seq (.ret (.and (.call "are_numbers" (.cons (.var 1) .nil)) (.bi .all (.cons c_is_word_of_1 .nil)))) .skip))
def t_sure_word : T := (.seq (.set 2 (.call "tupled" (.cons (.var 1) .nil))) (.seq (.ife (.cons (.or (.not (.call "is_word_of" (.cons (.var 0) (.cons (.var 2) .nil)))) (.cmp .gt (.bi .len (.cons (.var 2) .nil)) (.lit (.int 40)))) .nil) (.seq (.raise "Unfit") .skip) .skip) (.seq (.ret (.var 2)) .skip)))
def t_sure_row : T := (.seq (.set 2 (.call "tupled" (.cons (.var 1) .nil))) (.seq (.ife (.cons (.or (.not (.call "is_row_of" (.cons (.ix (.var 0) (.lit (.int 0))) (.cons (.var 2) .nil)))) (.cmp .gt (.bi .len (.cons (.var 2) .nil)) (.lit (.int 40)))) .nil) (.seq (.raise "Unfit") .skip) .skip) (.seq (.ret (.var 2)) .skip)))
def b_short_in_0 : T := (.seq (.ife (.cons (.and (.cmp .ne (.var 1) (.lst .nil)) (.cmp .eq (.ix (.var 1) (.neg (.lit (.int 1)))) (.neg (.var 2)))) .nil) (.seq (.expr (.meth .pop 1 .nil)) .skip) (.seq (.expr (.meth .append 1 (.cons (.var 2) .nil))) .skip)) .skip)
def l_short_in_1 : T := (.forr (.nm 2) (.dat (.var 0)) b_short_in_0)
def t_short_in : T := (.seq (.set 1 (.lst .nil)) (.seq l_short_in_1 (.seq (.ret (.bi .tuple (.cons (.var 1) .nil))) .skip)))
def e_back_in_0 : T := (.neg (.var 1))
def c_back_in_1 : T := (.comp (.nm 1) [1] (.dat (.rev (.var 0))) .nil e_back_in_0)
def t_back_in : T := (.seq (.ret (.bi .tuple (.cons c_back_in_1 .nil))) .skip)
def b_step_in_0 : T := (.seq (.setT (.tp (.cons (.nm 5) (.cons (.nm 6) .nil))) (.ix (.ix (.var 0) (.lit (.int 1))) (.bin .sub (.bi .abs (.cons (.var 4) .nil)) (.lit (.int 1))))) (.seq (.ife (.cons (.cmp .gt (.var 4) (.lit (.int 0))) .nil) (.seq (.expr (.meth .append 3 (.cons (.bin .add (.ix (.var 6) (.var 2)) (.lit (.int 1))) .nil))) (.seq (.set 2 (.ix (.var 5) (.var 2))) .skip)) (.seq (.set 2 (.idx (.var 5) (.var 2))) (.seq (.expr (.meth .append 3 (.cons (.bin .sub (.neg (.ix (.var 6) (.var 2))) (.lit (.int 1))) .nil))) .skip))) .skip))
def l_step_in_1 : T := (.forr (.nm 4) (.dat (.var 1)) b_step_in_0)
def t_step_in : T := (.seq (.set 3 (.lst .nil)) (.seq l_step_in_1 (.seq (.ret (.tup (.cons (.var 2) (.cons (.call "short_in" (.cons (.var 3) .nil)) .nil)))) .skip)))
def b_led_in_0 : T := (.seq (.setT (.tp (.cons (.nm 6) (.cons (.nm 4) .nil))) (.call "step_in" (.cons (.var 0) (.cons (.var 4) (.cons (.var 5) .nil))))) (.seq (.expr (.meth .append 3 (.cons (.var 6) .nil))) .skip))
def l_led_in_1 : T := (.forr (.nm 5) (.dat (.var 2)) b_led_in_0)
def t_led_in : T := (.seq (.par 3 4 (.lst .nil) (.call "short_in" (.cons (.var 1) .nil))) (.seq l_led_in_1 (.seq (.ret (.tup (.cons (.bi .tuple (.cons (.var 3) .nil)) (.cons (.var 4) .nil)))) .skip)))
def t_shortened : T := (.seq (.set 2 (.call "sure_machine" (.cons (.var 0) .nil))) (.seq (.ret (.call "short_in" (.cons (.call "sure_word" (.cons (.var 2) (.cons (.var 1) .nil))) .nil))) .skip))
def t_word_back : T := (.seq (.set 2 (.call "sure_machine" (.cons (.var 0) .nil))) (.seq (.ret (.call "back_in" (.cons (.call "sure_word" (.cons (.var 2) (.cons (.var 1) .nil))) .nil))) .skip))
def t_row_led : T := (.seq (.set 3 (.call "sure_machine" (.cons (.var 0) .nil))) (.seq (.set 4 (.call "sure_word" (.cons (.var 3) (.cons (.var 1) .nil)))) (.seq (.ret (.ix (.call "led_in" (.cons (.var 3) (.cons (.var 4) (.cons (.call "sure_row" (.cons (.var 3) (.cons (.var 2) .nil))) .nil)))) (.lit (.int 0)))) .skip)))
def t_part_at : T := (.seq (.set 3 (.call "sure_machine" (.cons (.var 0) .nil))) (.seq (.set 4 (.call "sure_word" (.cons (.var 3) (.cons (.var 1) .nil)))) (.seq (.ret (.ix (.call "led_in" (.cons (.var 3) (.cons (.var 4) (.cons (.call "sure_row" (.cons (.var 3) (.cons (.var 2) .nil))) .nil)))) (.lit (.int 1)))) .skip)))
def t_joined : T := (.seq (.set 3 (.call "sure_machine" (.cons (.var 0) .nil))) (.seq (.set 4 (.call "sure_word" (.cons (.var 3) (.cons (.var 1) .nil)))) (.seq (.ret (.call "short_in" (.cons (.bin .add (.var 4) (.call "sure_word" (.cons (.var 3) (.cons (.var 2) .nil)))) .nil))) .skip)))
/-! ### words: specs -/
abbrev SWordOf (F : FnV) : Prop := ∀ (w : Nat) sts (ws : List Int), MOk w sts → WOk sts.length ws → ws.length ≤ 100000 → F [.fr (mD w sts), .fr (zD ws)] = .ok (.fr (.bool true)) [.fr (mD w sts), .fr (zD ws)]
theorem areNums_z (ws : List Int) : areNums (zD ws) = true := by
  show (zs ws).all isNum = true
  simp [List.all_map, List.all_eq_true, isNum, Function.comp]
theorem ix_m1 {w : Nat} {sts : List (List Nat × List Nat)} : ixD (mD w sts) (.int 1) = some (.fr (.tuple (sts.map stD))) := rfl
theorem len_sts {sts : List (List Nat × List Nat)} : biD .len [.tuple (sts.map stD)] = some (.fr (nD sts.length)) := by rw [len_tup, List.length_map]
theorem seq_z {ws : List Int} : seqOf (zD ws) = some (zs ws) := rfl
theorem v_is_word_of {Φ : Fns} (hn : SNums (Φ "are_numbers")) : SWordOf (fnV Φ 2 2 [0, 1] t_is_word_of) := by
  intro w sts ws M hw hl
  rw [fnV_eq (by simp)]
  have k1 := hn 0 (zD ws) (fit_z hl)
  rw [areNums_z] at k1
  have hc : ev Φ c_is_word_of_1 [.fr (mD w sts), .fr (zD ws), .fr (nD sts.length), .no] = .ok (.ow ((zs ws).map fun _ => .bool true)) [.fr (mD w sts), .fr (zD ws), .fr (nD sts.length), .no] := by
    refine ev_comp_map (ρw := [.fr (mD w sts), .fr (zD ws), .fr (nD sts.length), .no]) (ds := zs ws) (by simp [seq_z]) (by simp [wipeE]) (by simp [wipeE]) (by simp [backE]) (by rw [List.length_map]; exact lim_le hl) fun d hd => ?_
    obtain ⟨k, hk, rfl⟩ := List.mem_map.mp hd
    have := hw k hk
    have ab : (if k < 0 then -k else k) ≤ (sts.length : Int) := by split <;> omega
    simp [e_is_word_of_0, wipeE, this.1, ab]
  have hA : biD .all [.list ((zs ws).map fun _ => PyData.bool true)] = some (.fr (.bool true)) := by
    rw [all_lst, boolsOf_map' (fun _ => true), Option.map_some, all_id]
    simp
  have ix := ix_m1 (w := w) (sts := sts)
  have ln := len_sts (sts := sts)
  generalize (zs ws).map (fun _ => PyData.bool true) = L at *
  generalize mD w sts = M at *
  generalize zD ws = W at *
  generalize PyData.tuple (sts.map stD) = S at *
  simp [t_is_word_of, k1, ix, ln, hc, -all_lst, hA]
abbrev SSureW (F : FnV) : Prop := ∀ (w : Nat) sts (ws : List Int), MOk w sts → WOk sts.length ws → ws.length ≤ 40 → F [.fr (mD w sts), .fr (zD ws)] = .ok (.fr (zD ws)) [.fr (mD w sts), .fr (zD ws)]
theorem v_sure_word {Φ : Fns} (ht : STup 1 (Φ "tupled")) (hw : SWordOf (Φ "is_word_of")) : SSureW (fnV Φ 2 1 [0, 1] t_sure_word) := by
  intro w sts ws M h hl
  have k1 := ht (zD ws) (fit_z (by omega))
  rw [toTup_z] at k1
  have k2 := hw w sts ws M h (by omega)
  have ln := len_z (a := ws)
  have c : ¬ ((40 : Int) < (ws.length : Int)) := by omega
  rw [fnV_eq (by simp)]
  generalize mD w sts = M at *
  generalize zD ws = W at *
  simp [t_sure_word, k1, k2, ln, c]
def rowD (r : List Nat) : D := natsD r
theorem rowD_z (r : List Nat) : natsD r = zD (r.map fun (k : Nat) => (k : Int)) := by simp [natsD, zD, zs]
abbrev SSureR (F : FnV) : Prop := ∀ (w : Nat) sts (r : List Nat), MOk w sts → ROk w r → r.length ≤ 40 → F [.fr (mD w sts), .fr (natsD r)] = .ok (.fr (natsD r)) [.fr (mD w sts), .fr (natsD r)]
theorem v_sure_row {Φ : Fns} (ht : STup 1 (Φ "tupled")) (hr : SRow (Φ "is_row_of")) : SSureR (fnV Φ 2 1 [0, 1] t_sure_row) := by
  intro w sts r M h hl
  have f1 : fit 1 (natsD r) = true := fit_nats (by omega)
  have k1 := ht (natsD r) f1
  rw [toTup_nats] at k1
  have k2 := hr 0 w (natsD r) f1
  rw [show isRow (w : Int) (natsD r) = true by
    rw [rowD_z]
    exact isRow_z fun x hx => by
      obtain ⟨k, hk, rfl⟩ := List.mem_map.mp hx
      have := h k hk
      omega] at k2
  have ln : biD .len [natsD r] = some (.fr (nD r.length)) := by unfold natsD; rw [len_tup, List.length_map]
  have c : ¬ ((40 : Int) < (r.length : Int)) := by omega
  have ix := ix_m0 (w := w) (sts := sts)
  rw [fnV_eq (by simp)]
  generalize mD w sts = M at *
  generalize natsD r = W at *
  simp [t_sure_row, k1, ix, k2, ln, c]
/-! shortened words -/
theorem ne_nil {acc : List Int} (h : acc.length ≤ 100000) : cmpD .ne (.list (zs acc)) (.list []) = some (!acc.isEmpty) := by
  have f0 : fit 1 (.list []) = true := fit_zl (n := 0) (ns := []) (by simp)
  rw [ne_D ⟨fit_shp (fit_zl (n := 0) h) (by decide), fit_shp f0 (by decide)⟩]
  unfold PyData.eqv
  rw [show PyData.eqvAll (zs acc) [] = decide (acc = []) from eqvs_z (b := [])]
  cases acc <;> simp
theorem ix_last {r : List Int} {j : Int} : ixD (.list (zs (r ++ [j]))) (.int (-1)) = some (.fr (.int j)) := by
  have e : ixOf (zs (r ++ [j])).length (-1) = some r.length := by
    unfold ixOf
    simp
    omega
  show ((ixOf (zs (r ++ [j])).length (-1)).bind fun i => (zs (r ++ [j]))[i]?.map Vl.fr) = _
  rw [e]
  simp
theorem pop_ok {r : List Int} {j : Int} : methD .pop (zs (r ++ [j])) [] = some (.fr (.int j), zs r) := by
  show (match (zs (r ++ [j]))[(zs (r ++ [j])).length - 1]? with
    | some d => some (Vl.fr d, (zs (r ++ [j])).dropLast)
    | none => none) = _
  simp
def shB (N : T) : T := (.seq (.ife (.cons (.and (.cmp .ne (.var 1) (.lst .nil)) (.cmp .eq (.ix (.var 1) (.neg (.lit (.int 1)))) N)) .nil) (.seq (.expr (.meth .pop 1 .nil)) .skip) (.seq (.expr (.meth .append 1 (.cons (.var 2) .nil))) .skip)) .skip)
theorem sh_step {Φ : Fns} {N : T} (hN : ∀ (k : Int) (ρ : Env), ρ[2]? = some (.fr (.int k)) → ev Φ N ρ = .ok (.fr (.int (-k))) ρ) {x0 : Sl} {st : List Int} {k : Int} (hl : st.length ≤ 1000) :
    ex Φ (shB N) [x0, .bx (zs st.reverse), .fr (.int k)] = .ok .nx [x0, .bx (zs (push st k).reverse), .fr (.int k)] := by
  have hN' := fun L => hN k [x0, .bx L, .fr (.int k)] rfl
  cases st with
  | nil =>
    have e1 := ne_nil (acc := []) (by simp)
    have e2 : methD .append [] [.int k] = some (.fr .none, [.int k]) := app_ok (by decide)
    simp only [push, List.reverse_nil, List.reverse_cons, List.nil_append]
    simp at e1
    simp [shB, e1, e2]
  | cons j r =>
    rw [List.reverse_cons]
    have e1 := ne_nil (acc := r.reverse ++ [j]) (by simp at hl ⊢; omega)
    have e2 := ix_last (r := r.reverse) (j := j)
    have e3 := pop_ok (r := r.reverse) (j := j)
    have e4 : methD .append (zs (r.reverse ++ [j])) [.int k] = some (.fr .none, zs (r.reverse ++ [j]) ++ [.int k]) := app_ok (by simp [LIM] at hl ⊢; omega)
    have e5 : ((r.reverse ++ [j]).isEmpty) = false := by cases r.reverse <;> rfl
    rw [e5] at e1
    by_cases q : j = -k
    · have p : push (j :: r) k = r := by simp [push, q]
      rw [p]
      generalize zs (r.reverse ++ [j]) = A at *
      generalize zs r.reverse = B at *
      simp [shB, e1, e2, hN', q, e3]
    · have p : push (j :: r) k = k :: j :: r := by simp [push, q]
      have p2 : zs (push (j :: r) k).reverse = zs (r.reverse ++ [j]) ++ [.int k] := by rw [p]; simp
      rw [p2]
      generalize zs (r.reverse ++ [j]) = A at *
      generalize zs r.reverse = B at *
      simp [shB, e1, e2, hN', q, e4]
theorem push_len (st : List Int) (k : Int) : (push st k).length ≤ st.length + 1 := by
  cases st with
  | nil => simp [push]
  | cons j r =>
    by_cases q : j = -k
    · have : push (j :: r) k = r := by simp [push, q]
      rw [this]; simp; omega
    · have : push (j :: r) k = k :: j :: r := by simp [push, q]
      rw [this]; simp
theorem sh_loop {Φ : Fns} {N : T} (hN : ∀ (k : Int) (ρ : Env), ρ[2]? = some (.fr (.int k)) → ev Φ N ρ = .ok (.fr (.int (-k))) ρ) {x0 x2 : Sl} {ws : List Int} (hl : ws.length ≤ 1000) :
    ∃ x, floop (.nm 2) (ex Φ (shB N)) (zs ws) [x0, .bx [], x2] = .ok .nx [x0, .bx (zs (sh ws)), x] := by
  obtain ⟨ρ', h1, hb, x, rfl⟩ := floop_fold (tg := .nm 2) (b := ex Φ (shB N)) (g := PyData.int) (f := push) (I := fun j st ρ => st.length ≤ j ∧ ∃ x, ρ = [x0, .bx (zs st.reverse), x]) (ks := ws) (n := 0) (s := []) (ρ := [x0, .bx [], x2]) ⟨Nat.le_refl _, _, rfl⟩ (by
    rintro k hk j st ρ hj ⟨hb, x, rfl⟩
    refine ⟨[x0, .bx (zs st.reverse), .fr (.int k)], by simp, _, sh_step hN (by omega), ?_, _, rfl⟩
    have := push_len st k
    omega)
  exact ⟨x, h1⟩
abbrev SShort (F : FnV) : Prop := ∀ ws : List Int, ws.length ≤ 1000 → F [.fr (zD ws)] = .ok (.fr (zD (sh ws))) [.fr (zD ws)] ∧ F [.fr (.list (zs ws))] = .ok (.fr (zD (sh ws))) [.fr (.list (zs ws))] ∧ F [.bx (zs ws)] = .ok (.fr (zD (sh ws))) [.fr (.list (zs ws))]
theorem sh_all {Φ : Fns} {N : T} (hN : ∀ (k : Int) (ρ : Env), ρ[2]? = some (.fr (.int k)) → ev Φ N ρ = .ok (.fr (.int (-k))) ρ) : SShort (fnV Φ 1 2 [0] (.seq (.set 1 (.lst .nil)) (.seq (.forr (.nm 2) (.dat (.var 0)) (shB N)) (.seq (.ret (.bi .tuple (.cons (.var 1) .nil))) .skip)))) := by
  intro ws hl
  have key : ∀ (a : Sl) (d : D), evi Φ (.dat (.var 0)) [a, .bx [], .no] = .ok (zs ws) [.fr d, .bx [], .no] → fnV Φ 1 2 [0] (.seq (.set 1 (.lst .nil)) (.seq (.forr (.nm 2) (.dat (.var 0)) (shB N)) (.seq (.ret (.bi .tuple (.cons (.var 1) .nil))) .skip))) [a] = .ok (.fr (zD (sh ws))) [.fr d] := by
    intro a d hd
    obtain ⟨x, h1⟩ := sh_loop hN (x0 := .fr d) (x2 := .no) hl
    have h2 : ex Φ (.forr (.nm 2) (.dat (.var 0)) (shB N)) [a, .bx [], .no] = .ok .nx [.fr d, .bx (zs (sh ws)), x] := by rw [ex_forr, hd, Out.bind_ok, h1]
    rw [fnV_eq (by simp)]
    have e : PyData.tuple (zs (sh ws)) = zD (sh ws) := rfl
    generalize zs (sh ws) = A at *
    simp [h2, e]
  refine ⟨key _ _ (by simp [seq_z]), key _ _ (by simp), key _ _ (by simp)⟩
theorem v_short_in {Φ : Fns} : SShort (fnV Φ 1 2 [0] t_short_in) := sh_all (N := .neg (.var 2)) fun k ρ h => by simp [h]
/-! backs -/
theorem bkz (ws : List Int) : (zs ws).reverse.map (fun d => match d with | .int i => PyData.int (-i) | d => d) = zs (bk ws) := by
  simp [bk, zs, List.map_reverse, Function.comp]
abbrev SBack (F : FnV) : Prop := ∀ ws : List Int, ws.length ≤ 1000 → F [.fr (zD ws)] = .ok (.fr (zD (bk ws))) [.fr (zD ws)]
theorem v_back_in {Φ : Fns} : SBack (fnV Φ 1 1 [0] t_back_in) := by
  intro ws hl
  have hc : ev Φ c_back_in_1 [.fr (zD ws), .no] = .ok (.ow (zs (bk ws))) [.fr (zD ws), .no] := by
    rw [← bkz]
    refine ev_comp_map (ρw := [.fr (zD ws), .no]) (ds := (zs ws).reverse) (by unfold zD; simp) (by simp [wipeE]) (by simp [wipeE]) (by simp [backE]) (by simp [LIM]; omega) fun d hd => ?_
    obtain ⟨k, hk, rfl⟩ := List.mem_map.mp (List.mem_reverse.mp hd)
    simp [e_back_in_0, wipeE]
  rw [fnV_eq (by simp)]
  have e : PyData.tuple (zs (bk ws)) = zD (bk ws) := rfl
  generalize zs (bk ws) = A at *
  simp [t_back_in, hc, e]
end Wk
end T_LG
section T_LH
set_option maxHeartbeats 1000000
namespace Wk
open PySem
theorem eqv_nat (a b : Nat) : PyData.eqv (nD a) (nD b) = decide (a = b) := by
  unfold PyData.eqv
  by_cases h : a = b
  · simp [h]
  · have : ¬ ((a : Int) = (b : Int)) := by omega
    simp [h, this]
theorem find_nat : ∀ {o : List Nat} {x : Nat}, x ∈ o → (o.map nD).findIdx? (fun z => PyData.eqv z (nD x)) = some (o.idxOf x)
  | [], _, h => by cases h
  | a :: o, x, h => by
    show (nD a :: o.map nD).findIdx? _ = _
    rw [List.findIdx?_cons]
    rw [eqv_nat]
    by_cases e : a = x
    · subst e; simp
    · have hx : x ∈ o := by rcases List.mem_cons.mp h with q | q; exact absurd q.symm e; exact q
      rw [find_nat hx]
      have : (a == x) = false := by simpa using e
      simp [e, List.idxOf_cons, this]
theorem idx_nat {o : List Nat} {x : Nat} (h : x ∈ o) (hl : o.length ≤ 100000) : idxD .t (natsD o) (nD x) = some (.fr (nD (o.idxOf x))) := by
  unfold idxD natsD
  simp only []
  rw [if_pos ⟨fit_shp (fit_nats (n := 0) hl) (by decide), shp_int⟩]
  unfold idxL
  rw [find_nat h]
  rfl
theorem ix_st {sts : List (List Nat × List Nat)} {k : Int} (h0 : k ≠ 0) (h : k.natAbs ≤ sts.length) : ixD (.tuple (sts.map stD)) (.int ((if k < 0 then -k else k) - 1)) = some (.fr (stD (stAt sts k))) := by
  have e : ((if k < 0 then -k else k) - 1) = ((k.natAbs - 1 : Nat) : Int) := by split <;> omega
  rw [e]
  refine ixt_nat ?_
  have hl : k.natAbs - 1 < sts.length := by omega
  rw [List.getElem?_map]
  unfold stAt
  rw [List.getD_eq_getElem?_getD, List.getElem?_eq_getElem hl]
  rfl
theorem ix_nat {o : List Nat} {x : Nat} (h : x < o.length) : ixD (natsD o) (nD x) = some (.fr (nD (o.getD x 0))) := by
  refine ixt_nat ?_
  rw [List.getElem?_map, getD_lt (d := 0) h]
  rfl
/-! one number -/
theorem step_body {Φ : Fns} {w : Nat} {sts : List (List Nat × List Nat)} {k : Int} {x : Nat} {acc : List Int} {W s5 s6 : Sl} (M : MOk w sts) (h0 : k ≠ 0) (h : k.natAbs ≤ sts.length) (hx : x < w) (hl : acc.length ≤ 1000) :
    ex Φ b_step_in_0 [.fr (mD w sts), W, .fr (nD x), .bx (zs acc), .fr (.int k), s5, s6] = .ok .nx [.fr (mD w sts), W, .fr (nD (one sts k x).1), .bx (zs (acc ++ [(one sts k x).2])), .fr (.int k), .fr (natsD (stAt sts k).1), .fr (natsD (stAt sts k).2)] := by
  have hm := stAt_mem h0 h
  have ho := M.outs _ hm
  have hn := M.nlen _ hm
  have ol : (stAt sts k).1.length = w := by rw [ho.length_eq, List.length_range]
  have w5 := M.w5
  have ix1 := ix_m1 (w := w) (sts := sts)
  have ix2 := ix_st h0 h
  have as : ∀ ρ : Env, asg (.tp (.cons (.nm 5) (.cons (.nm 6) .nil))) (stD (stAt sts k)) ρ = asgs (.cons (.nm 5) (.cons (.nm 6) .nil)) [natsD (stAt sts k).1, natsD (stAt sts k).2] ρ := fun ρ => by unfold stD; rw [asg_tup]
  have ap : ∀ j : Int, methD .append (zs acc) [.int j] = some (.fr .none, zs acc ++ [.int j]) := fun j => app_ok (by simp [LIM]; omega)
  have zz : ∀ j : Int, zs (acc ++ [j]) = zs acc ++ [.int j] := fun j => by simp
  by_cases q : 0 < k
  · have e : one sts k x = ((stAt sts k).1.getD x 0, ((stAt sts k).2.getD x 0 : Int) + 1) := by unfold one; rw [if_pos q]
    rw [e]
    dsimp only
    rw [zz]
    have i1 := ix_nat (o := (stAt sts k).1) (x := x) (by omega)
    have i2 := ix_nat (o := (stAt sts k).2) (x := x) (by omega)
    generalize (stAt sts k).1.getD x 0 = y1 at *
    generalize (stAt sts k).2.getD x 0 = y2 at *
    generalize mD w sts = Md at *
    generalize natsD (stAt sts k).1 = A at *
    generalize natsD (stAt sts k).2 = B at *
    generalize stD (stAt sts k) = S at *
    generalize PyData.tuple (sts.map stD) = SS at *
    generalize zs acc = Z at *
    simp [b_step_in_0, ix1, ix2, as, q, i1, i2, ap]
  · have e : one sts k x = ((stAt sts k).1.idxOf x, -((stAt sts k).2.getD ((stAt sts k).1.idxOf x) 0 : Int) - 1) := by unfold one; rw [if_neg q]
    rw [e]
    dsimp only
    rw [zz]
    have hx' : x ∈ (stAt sts k).1 := ho.mem_iff.mpr (List.mem_range.mpr hx)
    have i1 := idx_nat hx' (by omega)
    have i2 := ix_nat (o := (stAt sts k).2) (x := (stAt sts k).1.idxOf x) (by have := List.idxOf_lt_length_of_mem hx'; omega)
    have i0 : kindO (some (natsD (stAt sts k).1)) = some .t := id rfl
    generalize (stAt sts k).1.idxOf x = y1 at *
    generalize (stAt sts k).2.getD y1 0 = y2 at *
    generalize mD w sts = Md at *
    generalize natsD (stAt sts k).1 = A at *
    generalize natsD (stAt sts k).2 = B at *
    generalize stD (stAt sts k) = S at *
    generalize PyData.tuple (sts.map stD) = SS at *
    generalize zs acc = Z at *
    simp [b_step_in_0, ix1, ix2, as, q, i0, i1, i2, ap]
theorem raw_fold {sts : List (List Nat × List Nat)} : ∀ (ws : List Int) (x : Nat) (acc : List Int), ws.foldl (fun (s : Nat × List Int) k => ((one sts k s.1).1, s.2 ++ [(one sts k s.1).2])) (x, acc) = ((raw sts ws x).1, acc ++ (raw sts ws x).2)
  | [], x, acc => by show (x, acc) = (x, acc ++ []); rw [List.append_nil]
  | k :: ws, x, acc => by
    rw [List.foldl_cons, raw_fold ws]
    show _ = ((raw sts ws (one sts k x).1).1, acc ++ ((one sts k x).2 :: (raw sts ws (one sts k x).1).2))
    simp
abbrev SStep (F : FnV) : Prop := ∀ (w : Nat) sts (ws : List Int) (x : Nat), MOk w sts → WOk sts.length ws → ws.length ≤ 500 → x < w →
  F [.fr (mD w sts), .fr (zD ws), .fr (nD x)] = .ok (.fr (.tuple [nD (raw sts ws x).1, zD (sh (raw sts ws x).2)])) [.fr (mD w sts), .fr (zD ws), .fr (nD x)]
theorem v_step_in {Φ : Fns} (hs : SShort (Φ "short_in")) : SStep (fnV Φ 3 4 [0, 1] t_step_in) := by
  intro w sts ws x M hw hl hx
  have loop : ∃ s4 s5 s6, ex Φ l_step_in_1 [.fr (mD w sts), .fr (zD ws), .fr (nD x), .bx [], .no, .no, .no] = .ok .nx [.fr (mD w sts), .fr (zD ws), .fr (nD (raw sts ws x).1), .bx (zs (raw sts ws x).2), s4, s5, s6] := by
    unfold l_step_in_1
    have ei : evi Φ (.dat (.var 1)) [.fr (mD w sts), .fr (zD ws), .fr (nD x), .bx [], .no, .no, .no] = .ok (zs ws) [.fr (mD w sts), .fr (zD ws), .fr (nD x), .bx [], .no, .no, .no] := by simp [seq_z]
    rw [ex_forr, ei, Out.bind_ok]
    obtain ⟨ρ', h1, h2⟩ := floop_fold (tg := .nm 4) (b := ex Φ b_step_in_0) (g := PyData.int) (f := fun (s : Nat × List Int) k => ((one sts k s.1).1, s.2 ++ [(one sts k s.1).2]))
      (I := fun j s ρ => s.1 < w ∧ s.2.length ≤ j ∧ ∃ s4 s5 s6, ρ = [.fr (mD w sts), .fr (zD ws), .fr (nD s.1), .bx (zs s.2), s4, s5, s6]) (ks := ws) (n := 0) (s := (x, [])) (ρ := [.fr (mD w sts), .fr (zD ws), .fr (nD x), .bx [], .no, .no, .no])
      ⟨hx, Nat.le_refl _, _, _, _, rfl⟩ (by
      rintro k hk j ⟨y, acc⟩ ρ hj ⟨hy, ha, s4, s5, s6, rfl⟩
      have hk' := hw k hk
      refine ⟨[.fr (mD w sts), .fr (zD ws), .fr (nD y), .bx (zs acc), .fr (.int k), s5, s6], by simp, _, step_body M hk'.1 hk'.2 hy (by dsimp only at ha; omega), (one_ok M hk'.1 hk'.2 hy).1, ?_, _, _, _, rfl⟩
      simp at ha ⊢
      omega)
    rw [raw_fold] at h2
    obtain ⟨_, _, s4, s5, s6, rfl⟩ := h2
    exact ⟨s4, s5, s6, by rw [List.nil_append] at h1; exact h1⟩
  obtain ⟨s4, s5, s6, h1⟩ := loop
  have k1 := (hs (raw sts ws x).2 (by rw [raw_len]; omega)).2.2
  have cv := callV_b1 (F := Φ "short_in") (i := 3) (ρ := [.fr (mD w sts), .fr (zD ws), .fr (nD (raw sts ws x).1), .bx (zs (raw sts ws x).2), s4, s5, s6]) (s := .bx (zs (raw sts ws x).2)) rfl
  rw [k1] at cv
  rw [fnV_eq (by simp)]
  generalize zs (raw sts ws x).2 = Z at *
  generalize mD w sts = Md at *
  generalize zD ws = W at *
  simp [t_step_in, h1, cv]
/-! a row -/
theorem plf_fold {sts : List (List Nat × List Nat)} : ∀ (r : List Nat) (acc : List Nat) (here : List Int), r.foldl (fun (s : List Nat × List Int) x => (s.1 ++ [(raw sts s.2 x).1], sh (raw sts s.2 x).2)) (acc, here) = (acc ++ (plf sts here r).1, (plf sts here r).2)
  | [], acc, here => by show (acc, here) = (acc ++ [], here); rw [List.append_nil]
  | x :: r, acc, here => by
    rw [List.foldl_cons, plf_fold r]
    show _ = (acc ++ ((raw sts here x).1 :: (plf sts (sh (raw sts here x).2) r).1), (plf sts (sh (raw sts here x).2) r).2)
    simp
abbrev SLed (F : FnV) : Prop := ∀ (w : Nat) sts (ws : List Int) (r : List Nat), MOk w sts → WOk sts.length ws → ws.length ≤ 500 → ROk w r → r.length ≤ 1000 →
  F [.fr (mD w sts), .fr (zD ws), .fr (natsD r)] = .ok (.fr (.tuple [natsD (led sts ws r).1, zD (sh (led sts ws r).2)])) [.fr (mD w sts), .fr (zD ws), .fr (natsD r)]
theorem v_led_in {Φ : Fns} (hs : SShort (Φ "short_in")) (hp : SStep (Φ "step_in")) : SLed (fnV Φ 3 4 [0, 1, 2] t_led_in) := by
  intro w sts ws r M hw hl hr hrl
  have loop : ∃ s5 s6, ex Φ l_led_in_1 [.fr (mD w sts), .fr (zD ws), .fr (natsD r), .bx [], .fr (zD (sh ws)), .no, .no] = .ok .nx [.fr (mD w sts), .fr (zD ws), .fr (natsD r), .bx ((plf sts (sh ws) r).1.map nD), .fr (zD (plf sts (sh ws) r).2), s5, s6] := by
    unfold l_led_in_1
    have ei : evi Φ (.dat (.var 2)) [.fr (mD w sts), .fr (zD ws), .fr (natsD r), .bx [], .fr (zD (sh ws)), .no, .no] = .ok (r.map nD) [.fr (mD w sts), .fr (zD ws), .fr (natsD r), .bx [], .fr (zD (sh ws)), .no, .no] := by simp [natsD]
    rw [ex_forr, ei, Out.bind_ok]
    obtain ⟨ρ', h1, h2⟩ := floop_fold (tg := .nm 5) (b := ex Φ b_led_in_0) (g := nD) (f := fun (s : List Nat × List Int) x => (s.1 ++ [(raw sts s.2 x).1], sh (raw sts s.2 x).2))
      (I := fun j s ρ => s.1.length ≤ j ∧ WOk sts.length s.2 ∧ s.2.length ≤ 500 ∧ ∃ s5 s6, ρ = [.fr (mD w sts), .fr (zD ws), .fr (natsD r), .bx (s.1.map nD), .fr (zD s.2), s5, s6]) (ks := r) (n := 0) (s := ([], sh ws)) (ρ := [.fr (mD w sts), .fr (zD ws), .fr (natsD r), .bx [], .fr (zD (sh ws)), .no, .no])
      ⟨Nat.le_refl _, hw.sh, Nat.le_trans (sh_len ws) hl, _, _, rfl⟩ (by
      rintro x hx j ⟨acc, here⟩ ρ hj ⟨ha, hh, hb, s5, s6, rfl⟩
      have hx' := hr x hx
      have k1 := hp w sts here x M hh hb hx'
      refine ⟨[.fr (mD w sts), .fr (zD ws), .fr (natsD r), .bx (acc.map nD), .fr (zD here), .fr (nD x), s6], by simp, [.fr (mD w sts), .fr (zD ws), .fr (natsD r), .bx ((acc ++ [(raw sts here x).1]).map nD), .fr (zD (sh (raw sts here x).2)), .fr (nD x), .fr (nD (raw sts here x).1)], ?_, ?_, ?_, ?_, _, _, rfl⟩
      · have ap : methD .append (acc.map nD) [nD (raw sts here x).1] = some (.fr .none, acc.map nD ++ [nD (raw sts here x).1]) := app_ok (by simp [LIM] at ha ⊢; omega)
        rw [List.map_append, List.map_cons, List.map_nil]
        generalize (raw sts here x).1 = y at *
        generalize zD (sh (raw sts here x).2) = P at *
        generalize acc.map nD = A at *
        generalize mD w sts = Md at *
        generalize zD here = W at *
        simp [b_led_in_0, k1, ap]
      · simp at ha ⊢; omega
      · exact (raw_ok M hh hx').2.sh
      · have := sh_len (raw sts here x).2
        rw [raw_len] at this
        dsimp only at hb ⊢
        omega)
    rw [plf_fold] at h2
    obtain ⟨_, _, _, s5, s6, rfl⟩ := h2
    exact ⟨s5, s6, by rw [List.nil_append] at h1; exact h1⟩
  obtain ⟨s5, s6, h1⟩ := loop
  have k1 := (hs ws (by omega)).1
  have pe := plf_eq M hw hr
  rw [pe] at h1
  dsimp only at h1
  rw [fnV_eq (by simp)]
  have e : PyData.tuple ((led sts ws r).1.map nD) = natsD (led sts ws r).1 := rfl
  rw [← e]
  generalize (led sts ws r).1.map nD = Z at *
  generalize zD (sh (led sts ws r).2) = P at *
  generalize zD (sh ws) = W1 at *
  generalize mD w sts = Md at *
  generalize zD ws = W at *
  generalize natsD r = R at *
  simp [t_led_in, k1, h1]
/-! what is handed out -/
theorem z_app {a b : List Int} (h : a.length + b.length ≤ 100000) : binD .add (zD a) (zD b) = some (.fr (zD (a ++ b))) := add_zz h
abbrev SShortened (F : FnV) : Prop := ∀ (w : Nat) sts (ws : List Int), MOk w sts → WOk sts.length ws → ws.length ≤ 40 → F [.fr (mD w sts), .fr (zD ws)] = .ok (.fr (zD (sh ws))) [.fr (mD w sts), .fr (zD ws)]
theorem v_shortened {Φ : Fns} (hm : SSureM (Φ "sure_machine")) (hw : SSureW (Φ "sure_word")) (hs : SShort (Φ "short_in")) : SShortened (fnV Φ 2 1 [0, 1] t_shortened) := by
  intro w sts ws M h hl
  have k1 := hm w sts M
  have k2 := hw w sts ws M h hl
  have k3 := (hs ws (by omega)).1
  rw [fnV_eq (by simp)]
  generalize mD w sts = Md at *
  generalize zD (sh ws) = P at *
  generalize zD ws = W at *
  simp [t_shortened, k1, k2, k3]
abbrev SWordBack (F : FnV) : Prop := ∀ (w : Nat) sts (ws : List Int), MOk w sts → WOk sts.length ws → ws.length ≤ 40 → F [.fr (mD w sts), .fr (zD ws)] = .ok (.fr (zD (bk ws))) [.fr (mD w sts), .fr (zD ws)]
theorem v_word_back {Φ : Fns} (hm : SSureM (Φ "sure_machine")) (hw : SSureW (Φ "sure_word")) (hs : SBack (Φ "back_in")) : SWordBack (fnV Φ 2 1 [0, 1] t_word_back) := by
  intro w sts ws M h hl
  have k1 := hm w sts M
  have k2 := hw w sts ws M h hl
  have k3 := hs ws (by omega)
  rw [fnV_eq (by simp)]
  generalize mD w sts = Md at *
  generalize zD (bk ws) = P at *
  generalize zD ws = W at *
  simp [t_word_back, k1, k2, k3]
abbrev SRowLed (F : FnV) : Prop := ∀ (w : Nat) sts (ws : List Int) (r : List Nat), MOk w sts → WOk sts.length ws → ws.length ≤ 40 → ROk w r → r.length ≤ 40 → F [.fr (mD w sts), .fr (zD ws), .fr (natsD r)] = .ok (.fr (natsD (led sts ws r).1)) [.fr (mD w sts), .fr (zD ws), .fr (natsD r)]
theorem v_row_led {Φ : Fns} (hm : SSureM (Φ "sure_machine")) (hw : SSureW (Φ "sure_word")) (hr : SSureR (Φ "sure_row")) (hl : SLed (Φ "led_in")) : SRowLed (fnV Φ 3 2 [0, 1, 2] t_row_led) := by
  intro w sts ws r M h hwl hrr hrl
  have k1 := hm w sts M
  have k2 := hw w sts ws M h hwl
  have k3 := hr w sts r M hrr hrl
  have k4 := hl w sts ws r M h (by omega) hrr (by omega)
  have i0 := ix_t0 (a := natsD (led sts ws r).1) (b := zD (sh (led sts ws r).2))
  rw [fnV_eq (by simp)]
  generalize natsD (led sts ws r).1 = G at *
  generalize zD (sh (led sts ws r).2) = P at *
  generalize mD w sts = Md at *
  generalize zD ws = W at *
  generalize natsD r = R at *
  simp [t_row_led, k1, k2, k3, k4, i0]
abbrev SPartAt (F : FnV) : Prop := ∀ (w : Nat) sts (ws : List Int) (r : List Nat), MOk w sts → WOk sts.length ws → ws.length ≤ 40 → ROk w r → r.length ≤ 40 → F [.fr (mD w sts), .fr (zD ws), .fr (natsD r)] = .ok (.fr (zD (sh (led sts ws r).2))) [.fr (mD w sts), .fr (zD ws), .fr (natsD r)]
theorem v_part_at {Φ : Fns} (hm : SSureM (Φ "sure_machine")) (hw : SSureW (Φ "sure_word")) (hr : SSureR (Φ "sure_row")) (hl : SLed (Φ "led_in")) : SPartAt (fnV Φ 3 2 [0, 1, 2] t_part_at) := by
  intro w sts ws r M h hwl hrr hrl
  have k1 := hm w sts M
  have k2 := hw w sts ws M h hwl
  have k3 := hr w sts r M hrr hrl
  have k4 := hl w sts ws r M h (by omega) hrr (by omega)
  have i0 := ix_t1 (a := natsD (led sts ws r).1) (b := zD (sh (led sts ws r).2))
  rw [fnV_eq (by simp)]
  generalize natsD (led sts ws r).1 = G at *
  generalize zD (sh (led sts ws r).2) = P at *
  generalize mD w sts = Md at *
  generalize zD ws = W at *
  generalize natsD r = R at *
  simp [t_part_at, k1, k2, k3, k4, i0]
abbrev SJoined (F : FnV) : Prop := ∀ (w : Nat) sts (a b : List Int), MOk w sts → WOk sts.length a → a.length ≤ 40 → WOk sts.length b → b.length ≤ 40 → F [.fr (mD w sts), .fr (zD a), .fr (zD b)] = .ok (.fr (zD (sh (a ++ b)))) [.fr (mD w sts), .fr (zD a), .fr (zD b)]
theorem v_joined {Φ : Fns} (hm : SSureM (Φ "sure_machine")) (hw : SSureW (Φ "sure_word")) (hs : SShort (Φ "short_in")) : SJoined (fnV Φ 3 2 [0, 1, 2] t_joined) := by
  intro w sts a b M ha hal hb hbl
  have k1 := hm w sts M
  have k2 := hw w sts a M ha hal
  have k3 := hw w sts b M hb hbl
  have k4 := (hs (a ++ b) (by simp; omega)).1
  have ad := z_app (a := a) (b := b) (by omega)
  rw [fnV_eq (by simp)]
  generalize mD w sts = Md at *
  generalize zD (sh (a ++ b)) = P at *
  generalize zD (a ++ b) = Q at *
  generalize zD a = A at *
  generalize zD b = B at *
  simp [t_joined, k1, k2, k3, k4, ad]
end Wk
end T_LH
section T_LI
set_option maxHeartbeats 2000000
namespace Wk
open PySem
/-! terms (printed) -/
def b__law_pick_0 : T := (.seq (.expr (.meth .append 4 (.cons (.meth .popAt 3 (.cons (.call "_law_take" (.cons (.var 0) (.cons (.bi .len (.cons (.var 3) .nil)) .nil))) .nil)) .nil))) .skip)
def l__law_pick_1 : T := (.forr (.nm 5) (.rng1 (.bi .min2 (.cons (.bi .int (.cons (.var 2) .nil)) (.cons (.bi .len (.cons (.var 3) .nil)) .nil)))) b__law_pick_0)
def t__law_pick : T := (.seq (.par 3 4 (.bi .list (.cons (.var 1) .nil)) (.lst .nil)) (.seq l__law_pick_1 (.seq (.ret (.var 4)) .skip)))
def b__law_flat_0 : T := (.seq (.expr (.meth .extend 1 (.cons (.var 2) .nil))) .skip)
def l__law_flat_1 : T := (.forr (.nm 2) (.dat (.var 0)) b__law_flat_0)
def t__law_flat : T := (.seq (.set 1 (.lst .nil)) (.seq l__law_flat_1 (.seq (.ret (.var 1)) .skip)))
def b__law_short_0 : T := (.seq (.ife (.cons (.and (.cmp .ne (.var 1) (.lst .nil)) (.cmp .eq (.ix (.var 1) (.neg (.lit (.int 1)))) (.bin .sub (.lit (.int 0)) (.var 2)))) .nil) (.seq (.expr (.meth .pop 1 .nil)) .skip) (.seq (.expr (.meth .append 1 (.cons (.var 2) .nil))) .skip)) .skip)
def l__law_short_1 : T := (.forr (.nm 2) (.dat (.var 0)) b__law_short_0)
def t__law_short : T := (.seq (.set 1 (.lst .nil)) (.seq l__law_short_1 (.seq (.ret (.bi .tuple (.cons (.var 1) .nil))) .skip)))
def e__law_back_0 : T := (.bin .sub (.lit (.int 0)) (.var 1))
def c__law_back_1 : T := (.comp (.nm 1) [1] (.dat (.rev (.var 0))) .nil e__law_back_0)
def t__law_back : T := (.seq (.ret (.bi .tuple (.cons c__law_back_1 .nil))) .skip)
def b__law_one_0 : T := (.seq (.ife (.cons (.cmp .eq (.ix (.var 3) (.var 5)) (.var 2)) .nil) (.seq (.ret (.tup (.cons (.var 5) (.cons (.bin .sub (.bin .sub (.lit (.int 0)) (.ix (.var 4) (.var 5))) (.lit (.int 1))) .nil)))) .skip) .skip) .skip)
def l__law_one_1 : T := (.forr (.nm 5) (.rng1 (.ix (.var 0) (.lit (.int 0)))) b__law_one_0)
def t__law_one : T := (.seq (.setT (.tp (.cons (.nm 3) (.cons (.nm 4) .nil))) (.ix (.ix (.var 0) (.lit (.int 1))) (.bin .sub (.bi .abs (.cons (.var 1) .nil)) (.lit (.int 1))))) (.seq (.ife (.cons (.cmp .gt (.var 1) (.lit (.int 0))) .nil) (.seq (.ret (.tup (.cons (.ix (.var 3) (.var 2)) (.cons (.bin .add (.ix (.var 4) (.var 2)) (.lit (.int 1))) .nil)))) .skip) .skip) (.seq l__law_one_1 (.seq (.ret (.lit .none)) .skip))))
def b__law_led_0 : T := (.seq (.setT (.tp (.cons (.nm 7) (.cons (.nm 4) .nil))) (.call "_law_one" (.cons (.var 0) (.cons (.var 4) (.cons (.var 6) .nil))))) (.seq (.expr (.meth .append 5 (.cons (.var 7) .nil))) .skip))
def l__law_led_1 : T := (.forr (.nm 6) (.dat (.var 2)) b__law_led_0)
def b__law_led_2 : T := (.seq (.par 4 5 (.var 3) (.lst .nil)) (.seq l__law_led_1 (.seq (.set 2 (.bi .tuple (.cons (.var 5) .nil))) .skip)))
def l__law_led_3 : T := (.forr (.nm 3) (.dat (.var 1)) b__law_led_2)
def t__law_led : T := (.seq l__law_led_3 (.seq (.ret (.var 2)) .skip))
def e__law_rows_0 : T := (.bin .add (.var 4) (.tup (.cons (.var 5) .nil)))
def c__law_rows_1 : T := (.comp (.nm 5) [5] (.rng1 (.var 0)) .nil e__law_rows_0)
def e__law_rows_2 : T := c__law_rows_1
def c__law_rows_3 : T := (.comp (.nm 4) [4] (.dat (.var 2)) .nil e__law_rows_2)
def b__law_rows_4 : T := (.seq (.set 2 (.call "_law_flat" (.cons c__law_rows_3 .nil))) .skip)
def l__law_rows_5 : T := (.forr (.nm 3) (.rng1 (.var 1)) b__law_rows_4)
def t__law_rows : T := (.seq (.set 2 (.lst (.cons (.tup .nil) .nil))) (.seq l__law_rows_5 (.seq (.ret (.var 2)) .skip)))
def t__law_shuffle : T := (.seq (.ret (.bi .tuple (.cons (.call "_law_pick" (.cons (.var 0) (.cons (.listIt (.rng1 (.var 1))) (.cons (.var 1) .nil)))) .nil))) .skip)
def e__law_any_0 : T := (.call "_law_take" (.cons (.var 0) (.cons (.var 3) .nil)))
def c__law_any_1 : T := (.comp (.nm 7) [7] (.rng1 (.var 1)) .nil e__law_any_0)
def b__law_any_2 : T := (.seq (.set 6 (.ite (.cmp .eq (.call "_law_take" (.cons (.var 0) (.cons (.lit (.int 3)) .nil))) (.lit (.int 0))) (.tupIt (.rng1 (.var 1))) (.call "_law_shuffle" (.cons (.var 0) (.cons (.var 1) .nil))))) (.seq (.expr (.meth .append 4 (.cons (.tup (.cons (.var 6) (.cons (.bi .tuple (.cons c__law_any_1 .nil)) .nil))) .nil))) .skip))
def l__law_any_3 : T := (.forr (.nm 5) (.rng1 (.var 3)) b__law_any_2)
def t__law_any : T := (.seq (.set 3 (.bin .add (.lit (.int 1)) (.call "_law_take" (.cons (.var 0) (.cons (.var 2) .nil))))) (.seq (.set 4 (.lst .nil)) (.seq l__law_any_3 (.seq (.ret (.tup (.cons (.var 1) (.cons (.bi .tuple (.cons (.var 4) .nil)) .nil)))) .skip))))
def e__law_bounded_0 : T := (.ite (.cmp .eq (.call "_law_take" (.cons (.var 0) (.cons (.lit (.int 3)) .nil))) (.lit (.int 0))) (.call "_law_take" (.cons (.var 0) (.cons (.bin .add (.var 5) (.lit (.int 1))) .nil))) (.lit (.int 0)))
def c__law_bounded_1 : T := (.comp (.nm 10) [10] (.rng1 (.var 1)) .nil e__law_bounded_0)
def b__law_bounded_2 : T := (.seq (.set 6 c__law_bounded_1) (.seq (.expr (.meth .append 4 (.cons (.tup (.cons (.call "_law_shuffle" (.cons (.var 0) (.cons (.var 1) .nil))) (.cons (.bi .tuple (.cons (.var 6) .nil)) .nil))) .nil))) .skip))
def l__law_bounded_3 : T := (.forr (.nm 5) (.rng1 (.var 3)) b__law_bounded_2)
def e__law_bounded_4 : T := (.ite (.cmp .eq (.var 10) (.var 8)) (.var 7) (.call "_law_take" (.cons (.var 0) (.cons (.bin .add (.var 3) (.lit (.int 1))) .nil))))
def c__law_bounded_5 : T := (.comp (.nm 10) [10] (.rng1 (.var 1)) .nil e__law_bounded_4)
def b__law_bounded_6 : T := (.seq (.setT (.tp (.cons (.nm 7) (.cons (.nm 8) .nil))) (.tup (.cons (.bin .add (.bin .add (.lit (.int 1)) (.var 3)) (.bin .mod (.bin .add (.var 5) (.lit (.int 1))) (.var 2))) (.cons (.call "_law_take" (.cons (.var 0) (.cons (.var 1) .nil))) .nil)))) (.seq (.set 6 c__law_bounded_5) (.seq (.set 9 (.ite (.cmp .eq (.call "_law_take" (.cons (.var 0) (.cons (.lit (.int 2)) .nil))) (.lit (.int 0))) (.tupIt (.rng1 (.var 1))) (.call "_law_shuffle" (.cons (.var 0) (.cons (.var 1) .nil))))) (.seq (.expr (.meth .append 4 (.cons (.tup (.cons (.var 9) (.cons (.bi .tuple (.cons (.var 6) .nil)) .nil))) .nil))) .skip))))
def l__law_bounded_7 : T := (.forr (.nm 5) (.rng1 (.var 2)) b__law_bounded_6)
def t__law_bounded : T := (.seq (.setT (.tp (.cons (.nm 2) (.cons (.nm 3) .nil))) (.tup (.cons (.bin .add (.lit (.int 1)) (.call "_law_take" (.cons (.var 0) (.cons (.lit (.int 3)) .nil)))) (.cons (.bin .add (.lit (.int 1)) (.call "_law_take" (.cons (.var 0) (.cons (.lit (.int 2)) .nil)))) .nil)))) (.seq (.set 4 (.lst (.cons (.tup (.cons (.tupIt (.rng1 (.var 1))) (.cons (.bin .mul (.tup (.cons (.lit (.int 0)) .nil)) (.var 1)) .nil))) .nil))) (.seq l__law_bounded_3 (.seq l__law_bounded_7 (.seq (.ret (.tup (.cons (.var 1) (.cons (.bi .tuple (.cons (.var 4) .nil)) .nil)))) .skip)))))
def t__law_sorts : T := (.seq (.ret (.tup (.cons (.lit (.int 2)) (.cons (.tup (.cons (.tup (.cons (.tup (.cons (.lit (.int 1)) (.cons (.lit (.int 0)) .nil))) (.cons (.tup (.cons (.lit (.int 4)) (.cons (.lit (.int 4)) .nil))) .nil))) (.cons (.tup (.cons (.tup (.cons (.lit (.int 0)) (.cons (.lit (.int 1)) .nil))) (.cons (.tup (.cons (.lit (.int 0)) (.cons (.lit (.int 2)) .nil))) .nil))) (.cons (.tup (.cons (.tup (.cons (.lit (.int 0)) (.cons (.lit (.int 1)) .nil))) (.cons (.tup (.cons (.lit (.int 0)) (.cons (.lit (.int 3)) .nil))) .nil))) (.cons (.tup (.cons (.tup (.cons (.lit (.int 0)) (.cons (.lit (.int 1)) .nil))) (.cons (.tup (.cons (.lit (.int 4)) (.cons (.lit (.int 1)) .nil))) .nil))) (.cons (.tup (.cons (.tup (.cons (.lit (.int 0)) (.cons (.lit (.int 1)) .nil))) (.cons (.tup (.cons (.lit (.int 4)) (.cons (.lit (.int 4)) .nil))) .nil))) .nil)))))) .nil)))) .skip)
def t__law_known : T := (.seq (.set 0 (.lst (.cons (.call "_law_add" (.cons (.lit (.int 2)) .nil)) (.cons (.call "_law_add" (.cons (.lit (.int 3)) .nil)) (.cons (.call "_law_sorts" .nil) (.cons (.tup (.cons (.lit (.int 2)) (.cons (.tup (.cons (.tup (.cons (.tup (.cons (.lit (.int 1)) (.cons (.lit (.int 0)) .nil))) (.cons (.tup (.cons (.lit (.int 0)) (.cons (.lit (.int 1)) .nil))) .nil))) (.cons (.tup (.cons (.tup (.cons (.lit (.int 0)) (.cons (.lit (.int 1)) .nil))) (.cons (.tup (.cons (.lit (.int 0)) (.cons (.lit (.int 1)) .nil))) .nil))) .nil))) .nil))) .nil)))))) (.seq (.ret (.bin .add (.var 0) (.lst (.cons (.tup (.cons (.lit (.int 2)) (.cons (.tup (.cons (.tup (.cons (.tup (.cons (.lit (.int 1)) (.cons (.lit (.int 0)) .nil))) (.cons (.tup (.cons (.lit (.int 1)) (.cons (.lit (.int 0)) .nil))) .nil))) (.cons (.tup (.cons (.tup (.cons (.lit (.int 0)) (.cons (.lit (.int 1)) .nil))) (.cons (.tup (.cons (.lit (.int 1)) (.cons (.lit (.int 1)) .nil))) .nil))) (.cons (.tup (.cons (.tup (.cons (.lit (.int 0)) (.cons (.lit (.int 1)) .nil))) (.cons (.tup (.cons (.lit (.int 2)) (.cons (.lit (.int 0)) .nil))) .nil))) .nil)))) .nil))) (.cons (.tup (.cons (.lit (.int 2)) (.cons (.tup (.cons (.tup (.cons (.tup (.cons (.lit (.int 1)) (.cons (.lit (.int 0)) .nil))) (.cons (.tup (.cons (.lit (.int 2)) (.cons (.lit (.int 1)) .nil))) .nil))) (.cons (.tup (.cons (.tup (.cons (.lit (.int 0)) (.cons (.lit (.int 1)) .nil))) (.cons (.tup (.cons (.lit (.int 2)) (.cons (.lit (.int 0)) .nil))) .nil))) (.cons (.tup (.cons (.tup (.cons (.lit (.int 0)) (.cons (.lit (.int 1)) .nil))) (.cons (.tup (.cons (.lit (.int 2)) (.cons (.lit (.int 2)) .nil))) .nil))) .nil)))) .nil))) .nil))))) .skip))
def t__law_some : T := (.seq (.set 1 (.call "_law_take" (.cons (.var 0) (.cons (.lit (.int 4)) .nil)))) (.seq (.ife (.cons (.cmp .eq (.var 1) (.lit (.int 0))) .nil) (.seq (.ret (.call "_law_of" (.cons (.var 0) (.cons (.call "_law_known" .nil) .nil)))) .skip) .skip) (.seq (.ret (.ite (.cmp .lt (.var 1) (.lit (.int 3))) (.call "_law_bounded" (.cons (.var 0) (.cons (.bin .add (.lit (.int 2)) (.call "_law_take" (.cons (.var 0) (.cons (.lit (.int 2)) .nil)))) .nil))) (.call "_law_any" (.cons (.var 0) (.cons (.bin .add (.lit (.int 2)) (.call "_law_take" (.cons (.var 0) (.cons (.lit (.int 2)) .nil)))) (.cons (.lit (.int 3)) .nil)))))) .skip)))
def e__law_word_0 : T := (.bin .mul (.call "_law_of" (.cons (.var 0) (.cons (.lst (.cons (.lit (.int 1)) (.cons (.neg (.lit (.int 1))) .nil))) .nil))) (.bin .add (.lit (.int 1)) (.call "_law_take" (.cons (.var 0) (.cons (.bi .len (.cons (.ix (.var 1) (.lit (.int 1))) .nil)) .nil)))))
def c__law_word_1 : T := (.comp (.nm 3) [3] (.rng1 (.var 2)) .nil e__law_word_0)
def t__law_word : T := (.seq (.ret (.call "_law_short" (.cons c__law_word_1 .nil))) .skip)
/-- the adding machine -/
def addS (w : Nat) : List (List Nat × List Nat) := [((List.range w).map fun x => (x + 1) % w, List.replicate (w - 1) 1 ++ [0]), (List.range w, List.replicate w 1)]
theorem addS_ok {w : Nat} (h2 : 2 ≤ w) (h5 : w ≤ 5) : MOk w (addS w) where
  w2 := h2
  w5 := h5
  m1 := by simp [addS]
  m12 := by simp [addS]
  outs := by
    intro s hs
    have : w = 2 ∨ w = 3 ∨ w = 4 ∨ w = 5 := by omega
    simp only [addS, List.mem_cons, List.mem_nil_iff, or_false] at hs
    rcases hs with rfl | rfl
    · rcases this with rfl | rfl | rfl | rfl <;> decide
    · exact List.Perm.refl _
  nlen := by
    intro s hs
    simp only [addS, List.mem_cons, List.mem_nil_iff, or_false] at hs
    rcases hs with rfl | rfl
    · simp; omega
    · simp
  nexts := by
    intro s hs k hk
    simp only [addS, List.mem_cons, List.mem_nil_iff, or_false] at hs
    rcases hs with rfl | rfl
    · simp [addS] at hk ⊢
      omega
    · simp [addS] at hk ⊢
      omega
abbrev SAdd (F : FnV) : Prop := ∀ w : Nat, 2 ≤ w → w ≤ 5 → F [.fr (nD w)] = .ok (.fr (mD w (addS w))) [.fr (nD w)]
theorem rep_one {k : Nat} {d : D} : (List.replicate k [d]).flatten = List.replicate k d := by
  induction k with
  | zero => rfl
  | succ k ih => rw [List.replicate_succ, List.flatten_cons, ih]; rfl
theorem v_law_add {Φ : Fns} : SAdd (fnV Φ 1 1 [0] t__law_add) := by
  intro w h2 h5
  rw [fnV_eq (by simp)]
  have hc : ev Φ c__law_add_1 [.fr (nD w), .no] = .ok (.ow (((List.range w).map nD).map fun d => match d with | .int x => .int ((x + 1) % (w : Int)) | d => d)) [.fr (nD w), .no] := by
    refine ev_comp_map (ρw := [.fr (nD w), .no]) (ds := (List.range w).map nD) (by simp [rng_ok (show w < 2 ^ 62 by omega)]) (by simp [wipeE]) (by simp [wipeE]) (by simp [backE]) (by simp [LIM]; omega) fun d hd => ?_
    obtain ⟨k, _, rfl⟩ := List.mem_map.mp hd
    refine ⟨[.fr (nD w), .fr (nD k)], by simp, by simp, [.fr (nD w), .fr (nD k)], ?_, by simp [wipeE]⟩
    simp [e__law_add_0, mod_int (show 0 < (w : Int) by omega)]
  have e1 : ((List.range w).map nD).map (fun d => match d with | PyData.int x => PyData.int ((x + 1) % (w : Int)) | d => d) = ((List.range w).map fun x => (x + 1) % w).map nD := by
    rw [List.map_map, List.map_map]
    refine List.map_congr_left fun k _ => ?_
    show PyData.int (((k : Int) + 1) % (w : Int)) = PyData.int (((k + 1) % w : Nat) : Int)
    congr 1
  rw [e1] at hc
  have m1 := mul_tup (a := [.int 1]) (k := (w : Int) - 1) (by simp; omega)
  rw [rep_one, show ((w : Int) - 1).toNat = w - 1 by omega] at m1
  have m2 := mul_tup (a := [.int 1]) (k := (w : Int)) (by simp; omega)
  rw [rep_one, Int.toNat_natCast] at m2
  have a1 := add_tup (a := List.replicate (w - 1) (.int 1)) (b := [.int 0]) (by simp [LIM]; omega)
  have n1 : List.replicate (w - 1) (PyData.int 1) ++ [.int 0] = (List.replicate (w - 1) 1 ++ [0]).map nD := by simp
  have n2 : List.replicate w (PyData.int 1) = (List.replicate w 1).map nD := by simp
  rw [n1] at a1
  rw [n2] at m2
  have tv : ∀ ρ, tupV ((List.range w).map nD) ρ = .ok (.fr (.tuple ((List.range w).map nD))) ρ := fun ρ => tupV_ok (by simp [LIM]; omega)
  have rg := rng_ok (show w < 2 ^ 62 by omega)
  have fin : mD w (addS w) = .tuple [nD w, .tuple [.tuple [.tuple (((List.range w).map fun x => (x + 1) % w).map nD), .tuple ((List.replicate (w - 1) 1 ++ [0]).map nD)], .tuple [.tuple ((List.range w).map nD), .tuple ((List.replicate w 1).map nD)]]] := rfl
  rw [fin]
  generalize ((List.range w).map fun x => (x + 1) % w).map nD = L1 at *
  generalize (List.replicate (w - 1) 1 ++ [0]).map nD = L2 at *
  generalize (List.range w).map nD = L3 at *
  generalize (List.replicate w 1).map nD = L4 at *
  simp [t__law_add, hc, m1, a1, tv, rg, m2]
theorem take_c {Φ : Fns} (ht : STake (Φ "_law_take")) {i : Nat} {n : Int} {b : Nat} {s : Sl} {ρ : Env} (h : ρ[i]? = some s) (hs : Tin s b) (h0 : 0 < n) (h1 : n < 1073741824) (hb : b < 1000000000) :
    ∃ (r : Int) (s' : Sl), 0 ≤ r ∧ r < n ∧ Tin s' (b + 1) ∧ callV (Φ "_law_take") [.bx i, .fr (.int n)] ρ = .ok (.fr (.int r)) (ρ.set i s') := by
  obtain ⟨r, s', r0, r1, hs', e⟩ := ht n b s hs h0 h1 hb
  refine ⟨r, s', r0, r1, hs', ?_⟩
  rw [callV_bf (F := Φ "_law_take") (i := i) (ρ := ρ) (a := .int n) h, e]
  simp

/-! ### what is drawn -/
abbrev SPick (F : FnV) : Prop := ∀ (b : Nat) (s : Sl) (gs : List D) (n : Nat), Tin s b → gs.length ≤ 100000 → n ≤ 100000 → b + 100000 < 1000000000 →
  ∃ (ps rest : List D) (s' : Sl), (ps ++ rest).Perm gs ∧ ps.length = min n gs.length ∧ Tin s' (b + min n gs.length) ∧ F [s, .fr (.list gs), .fr (nD n)] = .ok (.ow ps) [s', .fr (.list gs), .fr (nD n)]
theorem perm_erase {α : Type} : ∀ {l : List α} {k : Nat} {g : α}, l[k]? = some g → (g :: l.eraseIdx k).Perm l
  | [], k, g, h => by simp at h
  | a :: l, 0, g, h => by simp at h; subst h; exact List.Perm.refl _
  | a :: l, k + 1, g, h => by
    have := perm_erase (l := l) (k := k) (g := g) (by simpa using h)
    show (g :: a :: l.eraseIdx k).Perm _
    exact (List.Perm.swap a g _).trans (this.cons a)
theorem min_nat (n m : Nat) : (if (m : Int) < (n : Int) then (m : Int) else (n : Int)) = ((min n m : Nat) : Int) := by split <;> omega
theorem v_law_pick {Φ : Fns} (ht : STake (Φ "_law_take")) : SPick (fnV Φ 3 3 [0, 1, 2] t__law_pick) := by
  intro b s gs n hs hg hn hb
  obtain ⟨ds, rfl⟩ := tin_bx hs
  have loop : ∃ (ps rest : List D) (s' x : Sl), (ps ++ rest).Perm gs ∧ ps.length = min n gs.length ∧ Tin s' (b + min n gs.length) ∧ ex Φ l__law_pick_1 [.bx ds, .fr (.list gs), .fr (nD n), .bx gs, .bx [], .no] = .ok .nx [s', .fr (.list gs), .fr (nD n), .bx rest, .bx ps, x] := by
    unfold l__law_pick_1
    have ei : evi Φ (.rng1 (.bi .min2 (.cons (.bi .int (.cons (.var 2) .nil)) (.cons (.bi .len (.cons (.var 3) .nil)) .nil)))) [.bx ds, .fr (.list gs), .fr (nD n), .bx gs, .bx [], .no] = .ok ((List.range (min n gs.length)).map nD) [.bx ds, .fr (.list gs), .fr (nD n), .bx gs, .bx [], .no] := by
      have r := rng_ok (w := min n gs.length) (by omega)
      simp only [evi_rng1, ev_bi, evs_cons, ev_var, List.getElem?_cons_zero, List.getElem?_cons_succ, evVar_fr, evVar_bx, Out.bind_ok, lay_fr, evs_nil, biV_eq, datas_cons, datas_nil, data_fr, data_bx, slData_bx, Option.bind_some, Option.map_some, biO_some, int_int, Out.ofO_some, len_lst, min_int, lay_bx, rngO_some]
      rw [min_nat, r]
      rfl
    rw [ex_forr, ei, Out.bind_ok]
    obtain ⟨ρ', h1, h2⟩ := floop_invN (tg := .nm 5) (b := ex Φ b__law_pick_0) (I := fun j ρ => ∃ (s : Sl) (ps rest : List D) (x : Sl), Tin s (b + j) ∧ (ps ++ rest).Perm gs ∧ ps.length = j ∧ ρ = [s, .fr (.list gs), .fr (nD n), .bx rest, .bx ps, x]) (ds := (List.range (min n gs.length)).map nD) (k := 0) (ρ := [.bx ds, .fr (.list gs), .fr (nD n), .bx gs, .bx [], .no])
      ⟨_, [], gs, _, hs, List.Perm.refl _, rfl, rfl⟩ (by
      rintro d hd j ρ hj ⟨s, ps, rest, x, hs, hp, hl, rfl⟩
      rw [List.length_map, List.length_range] at hj
      have hlen := hp.length_eq
      rw [List.length_append] at hlen
      have hr : 0 < rest.length := by omega
      obtain ⟨r, s', r0, r1, hs', e⟩ := ht rest.length (b + j) s hs (by omega) (by omega) (by omega)
      obtain ⟨k, rfl⟩ := Int.eq_ofNat_of_zero_le r0
      have hk : k < rest.length := by omega
      obtain ⟨g, hgk⟩ : ∃ g, rest[k]? = some g := ⟨_, List.getElem?_eq_getElem hk⟩
      obtain ⟨ds, rfl⟩ := tin_bx hs
      obtain ⟨ds', rfl⟩ := tin_bx hs'
      refine ⟨[.bx ds, .fr (.list gs), .fr (nD n), .bx rest, .bx ps, .fr d], by simp, [.bx ds', .fr (.list gs), .fr (nD n), .bx (rest.eraseIdx k), .bx (ps ++ [g]), .fr d], ?_, _, ps ++ [g], rest.eraseIdx k, _, hs', ?_, by simp [hl], rfl⟩
      · have c := callV_bf (F := Φ "_law_take") (i := 0) (ρ := [.bx ds, .fr (.list gs), .fr (nD n), .bx rest, .bx ps, .fr d]) (a := .int rest.length) (s := .bx ds) rfl
        rw [e] at c
        have p := popAt_ok hgk (by omega)
        have a : methD .append ps [g] = some (.fr .none, ps ++ [g]) := app_ok (by simp [LIM]; omega)
        simp [b__law_pick_0, c, p, a]
      · have q := perm_erase hgk
        rw [List.append_assoc]
        exact (List.Perm.append_left ps q).trans hp)
    obtain ⟨s', ps, rest, x, q1, q2, q3, rfl⟩ := h2
    rw [List.length_map, List.length_range, Nat.zero_add] at q1 q3
    exact ⟨ps, rest, s', x, q2, q3, q1, h1⟩
  obtain ⟨ps, rest, s', x, q1, q2, q3, h1⟩ := loop
  obtain ⟨ds', rfl⟩ := tin_bx q3
  refine ⟨ps, rest, _, q1, q2, q3, ?_⟩
  rw [fnV_eq (by simp)]
  simp [t__law_pick, h1]
abbrev SShuffle (F : FnV) : Prop := ∀ (b : Nat) (s : Sl) (n : Nat), Tin s b → n ≤ 1000 → b + 100000 < 1000000000 →
  ∃ (o : List Nat) (s' : Sl), o.Perm (List.range n) ∧ Tin s' (b + n) ∧ F [s, .fr (nD n)] = .ok (.fr (natsD o)) [s', .fr (nD n)]
theorem perm_nats {ps : List D} {l : List Nat} (h : ps.Perm (l.map nD)) : ∃ o : List Nat, ps = o.map nD ∧ o.Perm l := by
  let f : D → Nat := fun d => match d with
    | .int i => i.toNat
    | _ => 0
  have hf : ∀ k : Nat, f (nD k) = k := fun k => by simp [f]
  refine ⟨ps.map f, ?_, ?_⟩
  · rw [List.map_map]
    conv => lhs; rw [← List.map_id ps]
    refine List.map_congr_left fun d hd => ?_
    obtain ⟨k, _, rfl⟩ := List.mem_map.mp (h.mem_iff.mp hd)
    simp [hf]
  · have := h.map f
    rw [List.map_map] at this
    refine this.trans ?_
    have e : l.map (f ∘ nD) = l := by
      conv => rhs; rw [← List.map_id l]
      exact List.map_congr_left fun k _ => hf k
    rw [e]
theorem v_law_shuffle {Φ : Fns} (hp : SPick (Φ "_law_pick")) : SShuffle (fnV Φ 2 0 [0, 1] t__law_shuffle) := by
  intro b s n hs hn hb
  obtain ⟨ps, rest, s', h1, h2, h3, e⟩ := hp b s ((List.range n).map nD) n hs (by simp; omega) (by omega) hb
  rw [List.length_map, List.length_range, Nat.min_self] at h2 h3
  have hr : rest = [] := by
    have := h1.length_eq
    rw [List.length_append, List.length_map, List.length_range] at this
    exact List.eq_nil_of_length_eq_zero (by omega)
  subst hr
  rw [List.append_nil] at h1
  obtain ⟨o, rfl, ho⟩ := perm_nats h1
  obtain ⟨ds, rfl⟩ := tin_bx hs
  obtain ⟨ds', rfl⟩ := tin_bx h3
  refine ⟨o, _, ho, h3, ?_⟩
  rw [fnV_eq (by simp)]
  have lv : ∀ ρ, lstV ((List.range n).map nD) ρ = .ok (.ow ((List.range n).map nD)) ρ := fun ρ => lstV_ok (by simp [LIM]; omega)
  have r := rng_ok (w := n) (by omega)
  have c := callV_bff (F := Φ "_law_pick") (i := 0) (ρ := [.bx ds, .fr (nD n)]) (a := .list ((List.range n).map nD)) (b := nD n) (s := .bx ds) rfl
  rw [e] at c
  have fin : natsD o = .tuple (o.map nD) := rfl
  rw [fin]
  generalize (List.range n).map nD = R at *
  generalize o.map nD = O at *
  simp [t__law_shuffle, r, lv, c]
/-! rows put together -/
abbrev SFlat (F : FnV) : Prop := ∀ xss : List (List D), xss.flatten.length ≤ 1000000 → F [.fr (.list (xss.map .list))] = .ok (.ow xss.flatten) [.fr (.list (xss.map .list))]
theorem flat_fold : ∀ (xss : List (List D)) (acc : List D), xss.foldl (fun s (x : List D) => s ++ x) acc = acc ++ xss.flatten
  | [], acc => by simp
  | x :: xss, acc => by rw [List.foldl_cons, flat_fold xss]; simp
theorem v_law_flat {Φ : Fns} : SFlat (fnV Φ 1 2 [0] t__law_flat) := by
  intro xss hl
  have loop : ∃ x, ex Φ l__law_flat_1 [.fr (.list (xss.map .list)), .bx [], .no] = .ok .nx [.fr (.list (xss.map .list)), .bx xss.flatten, x] := by
    unfold l__law_flat_1
    have ei : evi Φ (.dat (.var 0)) [.fr (.list (xss.map .list)), .bx [], .no] = .ok (xss.map .list) [.fr (.list (xss.map .list)), .bx [], .no] := by simp
    rw [ex_forr, ei, Out.bind_ok]
    have key : ∀ (yss : List (List D)) (acc : List D) (x : Sl), acc.length + yss.flatten.length ≤ 1000000 → ∃ x', floop (.nm 2) (ex Φ b__law_flat_0) (yss.map .list) [.fr (.list (xss.map .list)), .bx acc, x] = .ok .nx [.fr (.list (xss.map .list)), .bx (acc ++ yss.flatten), x'] := by
      intro yss
      induction yss with
      | nil => intro acc x _; exact ⟨x, by show floop _ _ [] _ = _; unfold floop; simp⟩
      | cons y yss ih =>
        intro acc x h
        rw [List.flatten_cons, List.length_append] at h
        obtain ⟨x', h'⟩ := ih (acc ++ y) (.fr (.list y)) (by rw [List.length_append]; omega)
        refine ⟨x', ?_⟩
        show floop _ _ (.list y :: yss.map .list) _ = _
        unfold floop
        have a : methD .extend acc [.list y] = some (.fr .none, acc ++ y) := ext_ok (by simp [LIM]; omega)
        have b : ex Φ b__law_flat_0 [.fr (.list (xss.map .list)), .bx acc, .fr (.list y)] = .ok .nx [.fr (.list (xss.map .list)), .bx (acc ++ y), .fr (.list y)] := by
          generalize xss.map PyData.list = XX
          simp [b__law_flat_0, a]
        rw [asg_nm, if_pos (by simp), Out.ofO_some, Out.bind_ok]
        simp only [List.set_cons_succ, List.set_cons_zero]
        rw [b, Out.bind_ok]
        dsimp only
        rw [h', List.append_assoc, List.flatten_cons]
    obtain ⟨x', h'⟩ := key xss [] .no (by simpa using hl)
    exact ⟨x', by rw [List.nil_append] at h'; exact h'⟩
  obtain ⟨x, h1⟩ := loop
  rw [fnV_eq (by simp)]
  generalize xss.flatten = Y at *
  generalize xss.map PyData.list = XX at *
  simp [t__law_flat, h1]
/-! words -/
theorem v_law_short {Φ : Fns} : SShort (fnV Φ 1 2 [0] t__law_short) := sh_all (N := .bin .sub (.lit (.int 0)) (.var 2)) fun k ρ h => by simp [h]
theorem v_law_back {Φ : Fns} : SBack (fnV Φ 1 1 [0] t__law_back) := by
  intro ws hl
  have hc : ev Φ c__law_back_1 [.fr (zD ws), .no] = .ok (.ow (zs (bk ws))) [.fr (zD ws), .no] := by
    rw [← bkz]
    refine ev_comp_map (ρw := [.fr (zD ws), .no]) (ds := (zs ws).reverse) (by unfold zD; simp) (by simp [wipeE]) (by simp [wipeE]) (by simp [backE]) (by simp [LIM]; omega) fun d hd => ?_
    obtain ⟨k, hk, rfl⟩ := List.mem_map.mp (List.mem_reverse.mp hd)
    simp [e__law_back_0, wipeE]
  rw [fnV_eq (by simp)]
  have e : PyData.tuple (zs (bk ws)) = zD (bk ws) := rfl
  generalize zs (bk ws) = A at *
  simp [t__law_back, hc, e]
abbrev SOne (F : FnV) : Prop := ∀ (w : Nat) sts (k : Int) (x : Nat), MOk w sts → k ≠ 0 → k.natAbs ≤ sts.length → x < w → F [.fr (mD w sts), .fr (.int k), .fr (nD x)] = .ok (.fr (.tuple [nD (one sts k x).1, .int (one sts k x).2])) [.fr (mD w sts), .fr (.int k), .fr (nD x)]
theorem find_idx {o : List Nat} {w x : Nat} (ho : o.length = w) (nd : o.Nodup) (hx : x ∈ o) : (List.range w).find? (fun y => decide (o.getD y 0 = x)) = some (o.idxOf x) := by
  have hi := List.idxOf_lt_length_of_mem hx
  refine find_range (by omega) ?_ fun j hj => ?_
  · rw [List.getD_eq_getElem?_getD, List.getElem?_eq_getElem hi]
    simp
  · have hj' : j < o.length := by omega
    rw [List.getD_eq_getElem?_getD, List.getElem?_eq_getElem hj']
    have : o.idxOf o[j] = j := nd.idxOf_getElem j hj'
    have ne : o[j] ≠ x := fun e => by rw [e] at this; omega
    simpa using ne
theorem v_law_one {Φ : Fns} : SOne (fnV Φ 3 3 [0, 1, 2] t__law_one) := by
  intro w sts k x M h0 h hx
  have hm := stAt_mem h0 h
  have ho := M.outs _ hm
  have hn := M.nlen _ hm
  have ol : (stAt sts k).1.length = w := by rw [ho.length_eq, List.length_range]
  have nd : (stAt sts k).1.Nodup := ho.nodup_iff.mpr List.nodup_range
  have w5 := M.w5
  have ix1 := ix_m1 (w := w) (sts := sts)
  have ix0 := ix_m0 (w := w) (sts := sts)
  have ix2 := ix_st h0 h
  have as : ∀ ρ : Env, asg (.tp (.cons (.nm 3) (.cons (.nm 4) .nil))) (stD (stAt sts k)) ρ = asgs (.cons (.nm 3) (.cons (.nm 4) .nil)) [natsD (stAt sts k).1, natsD (stAt sts k).2] ρ := fun ρ => by unfold stD; rw [asg_tup]
  by_cases q : 0 < k
  · have e : one sts k x = ((stAt sts k).1.getD x 0, ((stAt sts k).2.getD x 0 : Int) + 1) := by unfold one; rw [if_pos q]
    rw [e]
    dsimp only
    have i1 := ix_nat (o := (stAt sts k).1) (x := x) (by omega)
    have i2 := ix_nat (o := (stAt sts k).2) (x := x) (by omega)
    rw [fnV_eq (by simp)]
    generalize (stAt sts k).1.getD x 0 = y1 at *
    generalize (stAt sts k).2.getD x 0 = y2 at *
    generalize mD w sts = Md at *
    generalize natsD (stAt sts k).1 = A at *
    generalize natsD (stAt sts k).2 = B at *
    generalize stD (stAt sts k) = S at *
    generalize PyData.tuple (sts.map stD) = SS at *
    simp [t__law_one, ix1, ix2, as, q, i1, i2]
  · have e : one sts k x = ((stAt sts k).1.idxOf x, -((stAt sts k).2.getD ((stAt sts k).1.idxOf x) 0 : Int) - 1) := by unfold one; rw [if_neg q]
    rw [e]
    dsimp only
    have hx' : x ∈ (stAt sts k).1 := ho.mem_iff.mpr (List.mem_range.mpr hx)
    have rg : evi Φ (.rng1 (.ix (.var 0) (.lit (.int 0)))) [.fr (mD w sts), .fr (.int k), .fr (nD x), .fr (natsD (stAt sts k).1), .fr (natsD (stAt sts k).2), .no] = .ok ((List.range w).map nD) [.fr (mD w sts), .fr (.int k), .fr (nD x), .fr (natsD (stAt sts k).1), .fr (natsD (stAt sts k).2), .no] := by
      have r := rng_ok (w := w) (by omega)
      simp [ix0, r]
    have loop := floop_first (tg := .nm 5) (b := ex Φ b__law_one_0) (g := nD) (p := fun y => decide ((stAt sts k).1.getD y 0 = x)) (r := fun y => Vl.fr (.tuple [nD y, .int (-((stAt sts k).2.getD y 0 : Int) - 1)]))
      (I := fun ρ => ∃ y, ρ = [.fr (mD w sts), .fr (.int k), .fr (nD x), .fr (natsD (stAt sts k).1), .fr (natsD (stAt sts k).2), y]) (ks := List.range w) (ρ := [.fr (mD w sts), .fr (.int k), .fr (nD x), .fr (natsD (stAt sts k).1), .fr (natsD (stAt sts k).2), .no]) ⟨_, rfl⟩ (by
      rintro y hy ρ ⟨z, rfl⟩
      have hy := List.mem_range.mp hy
      have i1 := ix_nat (o := (stAt sts k).1) (x := y) (by omega)
      have i2 := ix_nat (o := (stAt sts k).2) (x := y) (by omega)
      refine ⟨[.fr (mD w sts), .fr (.int k), .fr (nD x), .fr (natsD (stAt sts k).1), .fr (natsD (stAt sts k).2), .fr (nD y)], by simp, [.fr (mD w sts), .fr (.int k), .fr (nD x), .fr (natsD (stAt sts k).1), .fr (natsD (stAt sts k).2), .fr (nD y)], ⟨_, rfl⟩, ?_⟩
      generalize (stAt sts k).1.getD y 0 = y1 at *
      generalize (stAt sts k).2.getD y 0 = y2 at *
      generalize mD w sts = Md at *
      generalize natsD (stAt sts k).1 = A at *
      generalize natsD (stAt sts k).2 = B at *
      by_cases c : y1 = x
      · simp [b__law_one_0, i1, i2, c]
      · have c' : ¬ ((y1 : Int) = (x : Int)) := by omega
        simp [b__law_one_0, i1, i2, c, c'])
    obtain ⟨ρ', ⟨y, rfl⟩, h1⟩ := loop
    rw [find_idx ol nd hx'] at h1
    dsimp only at h1
    have lp : ex Φ l__law_one_1 [.fr (mD w sts), .fr (.int k), .fr (nD x), .fr (natsD (stAt sts k).1), .fr (natsD (stAt sts k).2), .no] = floop (.nm 5) (ex Φ b__law_one_0) ((List.range w).map nD) [.fr (mD w sts), .fr (.int k), .fr (nD x), .fr (natsD (stAt sts k).1), .fr (natsD (stAt sts k).2), .no] := by
      unfold l__law_one_1
      rw [ex_forr, rg, Out.bind_ok]
    rw [h1] at lp
    rw [fnV_eq (by simp)]
    generalize (stAt sts k).1.idxOf x = y1 at *
    generalize (stAt sts k).2.getD y1 0 = y2 at *
    generalize mD w sts = Md at *
    generalize natsD (stAt sts k).1 = A at *
    generalize natsD (stAt sts k).2 = B at *
    generalize stD (stAt sts k) = S at *
    generalize PyData.tuple (sts.map stD) = SS at *
    simp [t__law_one, ix1, ix2, as, q, lp]
theorem led1_fold {sts : List (List Nat × List Nat)} : ∀ (r : List Nat) (acc : List Nat) (k : Int), ∃ j, r.foldl (fun (s : List Nat × Int) x => (s.1 ++ [(one sts s.2 x).1], (one sts s.2 x).2)) (acc, k) = (acc ++ (led sts [k] r).1, j)
  | [], acc, k => ⟨k, by show (acc, k) = (acc ++ [], k); rw [List.append_nil]⟩
  | x :: r, acc, k => by
    obtain ⟨j, h⟩ := led1_fold (sts := sts) r (acc ++ [(one sts k x).1]) (one sts k x).2
    refine ⟨j, ?_⟩
    rw [List.foldl_cons, h]
    show _ = (acc ++ ((one sts k x).1 :: (led sts [(one sts k x).2] r).1), j)
    simp
abbrev SLawLed (F : FnV) : Prop := ∀ (w : Nat) sts (ws : List Int) (r : List Nat), MOk w sts → WOk sts.length ws → ROk w r → r.length ≤ 1000 →
  F [.fr (mD w sts), .fr (zD ws), .fr (natsD r)] = .ok (.fr (natsD (lawLed sts ws r))) [.fr (mD w sts), .fr (zD ws), .fr (natsD r)]
theorem v_law_led {Φ : Fns} (h1 : SOne (Φ "_law_one")) : SLawLed (fnV Φ 3 5 [0, 1] t__law_led) := by
  intro w sts ws r M hw hr hl
  -- the whole row by one number
  have inner : ∀ (k : Int) (r : List Nat) (W x3 x4 x5 x6 x7 : Sl), k ≠ 0 → k.natAbs ≤ sts.length → ROk w r → r.length ≤ 1000 → ∃ y4 y6 y7, ex Φ l__law_led_1 [.fr (mD w sts), W, .fr (natsD r), x3, .fr (.int k), .bx [], x6, x7] = .ok .nx [.fr (mD w sts), W, .fr (natsD r), x3, y4, .bx ((led sts [k] r).1.map nD), y6, y7] := by
    intro k r W x3 x4 x5 x6 x7 k0 kl hr hl
    unfold l__law_led_1
    have ei : evi Φ (.dat (.var 2)) [.fr (mD w sts), W, .fr (natsD r), x3, .fr (.int k), .bx [], x6, x7] = .ok (r.map nD) [.fr (mD w sts), W, .fr (natsD r), x3, .fr (.int k), .bx [], x6, x7] := by simp [natsD]
    rw [ex_forr, ei, Out.bind_ok]
    obtain ⟨ρ', q1, q2⟩ := floop_fold (tg := .nm 6) (b := ex Φ b__law_led_0) (g := nD) (f := fun (s : List Nat × Int) x => (s.1 ++ [(one sts s.2 x).1], (one sts s.2 x).2))
      (I := fun j s ρ => s.1.length ≤ j ∧ s.2 ≠ 0 ∧ s.2.natAbs ≤ sts.length ∧ ∃ y6 y7, ρ = [.fr (mD w sts), W, .fr (natsD r), x3, .fr (.int s.2), .bx (s.1.map nD), y6, y7]) (ks := r) (n := 0) (s := ([], k)) (ρ := [.fr (mD w sts), W, .fr (natsD r), x3, .fr (.int k), .bx [], x6, x7])
      ⟨Nat.le_refl _, k0, kl, _, _, rfl⟩ (by
      rintro x hx j ⟨acc, h⟩ ρ hj ⟨ha, h0, hn, y6, y7, rfl⟩
      have hx' := hr x hx
      have c := h1 w sts h x M h0 hn hx'
      obtain ⟨o1, o2, o3⟩ := one_ok M h0 hn hx'
      refine ⟨[.fr (mD w sts), W, .fr (natsD r), x3, .fr (.int h), .bx (acc.map nD), .fr (nD x), y7], by simp, [.fr (mD w sts), W, .fr (natsD r), x3, .fr (.int (one sts h x).2), .bx ((acc ++ [(one sts h x).1]).map nD), .fr (nD x), .fr (nD (one sts h x).1)], ?_, ?_, o2, o3, _, _, rfl⟩
      · have ap : methD .append (acc.map nD) [nD (one sts h x).1] = some (.fr .none, acc.map nD ++ [nD (one sts h x).1]) := app_ok (by simp [LIM] at ha ⊢; omega)
        rw [List.map_append, List.map_cons, List.map_nil]
        generalize (one sts h x).1 = y at *
        generalize (one sts h x).2 = z at *
        generalize acc.map nD = A at *
        generalize mD w sts = Md at *
        generalize natsD r = R at *
        simp [b__law_led_0, c, ap]
      · simp at ha ⊢; omega)
    obtain ⟨j, ej⟩ := led1_fold (sts := sts) r [] k
    rw [ej, List.nil_append] at q2
    obtain ⟨_, _, _, y6, y7, rfl⟩ := q2
    exact ⟨_, y6, y7, q1⟩
  have loop : ∃ x3 x4 x5 x6 x7, ex Φ l__law_led_3 [.fr (mD w sts), .fr (zD ws), .fr (natsD r), .no, .no, .no, .no, .no] = .ok .nx [.fr (mD w sts), .fr (zD ws), .fr (natsD (lawLed sts ws r)), x3, x4, x5, x6, x7] := by
    unfold l__law_led_3
    have ei : evi Φ (.dat (.var 1)) [.fr (mD w sts), .fr (zD ws), .fr (natsD r), .no, .no, .no, .no, .no] = .ok (zs ws) [.fr (mD w sts), .fr (zD ws), .fr (natsD r), .no, .no, .no, .no, .no] := by simp [seq_z]
    rw [ex_forr, ei, Out.bind_ok]
    obtain ⟨ρ', q1, _, _, x3, x4, x5, x6, x7, rfl⟩ := floop_fold (tg := .nm 3) (b := ex Φ b__law_led_2) (g := PyData.int) (f := fun (r : List Nat) k => (led sts [k] r).1)
      (I := fun j r ρ => ROk w r ∧ r.length ≤ 1000 ∧ ∃ x3 x4 x5 x6 x7, ρ = [.fr (mD w sts), .fr (zD ws), .fr (natsD r), x3, x4, x5, x6, x7]) (ks := ws) (n := 0) (s := r) (ρ := [.fr (mD w sts), .fr (zD ws), .fr (natsD r), .no, .no, .no, .no, .no])
      ⟨hr, hl, _, _, _, _, _, rfl⟩ (by
      rintro k hk j r ρ hj ⟨hr, hl, x3, x4, x5, x6, x7, rfl⟩
      have hk' := hw k hk
      obtain ⟨l1, _, l3, _⟩ := led_ok M (r := r) (a := [k]) (fun i hi => by cases hi with | head => exact hk' | tail _ h => cases h) hr
      obtain ⟨y4, y6, y7, e⟩ := inner k r (.fr (zD ws)) (.fr (.int k)) .no .no x6 x7 hk'.1 hk'.2 hr hl
      refine ⟨[.fr (mD w sts), .fr (zD ws), .fr (natsD r), .fr (.int k), x4, x5, x6, x7], by simp, [.fr (mD w sts), .fr (zD ws), .fr (natsD (led sts [k] r).1), .fr (.int k), y4, .bx ((led sts [k] r).1.map nD), y6, y7], ?_, l1, by rw [l3]; exact hl, _, _, _, _, _, rfl⟩
      have fin : natsD (led sts [k] r).1 = .tuple ((led sts [k] r).1.map nD) := rfl
      rw [fin]
      generalize (led sts [k] r).1.map nD = L at *
      generalize mD w sts = Md at *
      generalize natsD r = R at *
      generalize zD ws = W at *
      simp [b__law_led_2, e])
    exact ⟨x3, x4, x5, x6, x7, q1⟩
  obtain ⟨x3, x4, x5, x6, x7, q⟩ := loop
  rw [fnV_eq (by simp)]
  generalize natsD (lawLed sts ws r) = L at *
  generalize mD w sts = Md at *
  generalize natsD r = R at *
  generalize zD ws = W at *
  simp [t__law_led, q]
end Wk
end T_LI
section T_LJ
set_option maxHeartbeats 2000000
namespace Wk
open PySem
theorem tin_mono {s : Sl} {b c : Nat} (h : Tin s b) (hc : b ≤ c) : Tin s c := let ⟨x, y, z, e, h1, h2⟩ := h; ⟨x, y, z, e, h1, by omega⟩
@[simp] theorem callV_0 {F : FnV} {ρ : Env} : callV F [] ρ = callO ρ [] (F []) := callV_eq (by simp [bxs]) rfl
/-! all rows of a length -/
def allRows (w : Nat) : Nat → List (List Nat)
  | 0 => [[]]
  | n + 1 => (allRows w n).flatMap fun own => (List.range w).map fun x => own ++ [x]
theorem rows_len (w : Nat) : ∀ n : Nat, (allRows w n).length = w ^ n
  | 0 => rfl
  | n + 1 => by
    show ((allRows w n).flatMap _).length = _
    rw [List.length_flatMap]
    have : ((allRows w n).map fun own => ((List.range w).map fun x => own ++ [x]).length) = (allRows w n).map fun _ => w := List.map_congr_left fun _ _ => by simp
    rw [this, List.map_const', List.sum_replicate_nat, rows_len w n, Nat.pow_succ]
theorem rows_mem {w : Nat} : ∀ {n : Nat} {r : List Nat}, r ∈ allRows w n ↔ r.length = n ∧ ROk w r
  | 0, r => by
    show r ∈ [[]] ↔ _
    simp only [List.mem_singleton]
    constructor
    · rintro rfl; exact ⟨rfl, fun x hx => by cases hx⟩
    · rintro ⟨h, _⟩; exact List.eq_nil_of_length_eq_zero h
  | n + 1, r => by
    show r ∈ (allRows w n).flatMap _ ↔ _
    rw [List.mem_flatMap]
    constructor
    · rintro ⟨own, ho, hr⟩
      obtain ⟨x, hx, rfl⟩ := List.mem_map.mp hr
      obtain ⟨h1, h2⟩ := rows_mem.mp ho
      refine ⟨by simp [h1], fun y hy => ?_⟩
      rcases List.mem_append.mp hy with q | q
      · exact h2 y q
      · cases q with
        | head => exact List.mem_range.mp hx
        | tail _ q => cases q
    · rintro ⟨h1, h2⟩
      have hne : r ≠ [] := by rintro rfl; simp at h1
      have e := List.dropLast_concat_getLast hne
      refine ⟨r.dropLast, rows_mem.mpr ⟨by simp [h1], fun y hy => h2 y (List.dropLast_subset r hy)⟩, ?_⟩
      exact List.mem_map.mpr ⟨r.getLast hne, List.mem_range.mpr (h2 _ (List.getLast_mem hne)), e⟩
theorem nD_app (own : List Nat) (x : Nat) : natsD (own ++ [x]) = .tuple (own.map nD ++ [nD x]) := by simp [natsD]
abbrev SRows (F : FnV) : Prop := ∀ w n : Nat, w ≤ 5 → n ≤ 6 → F [.fr (nD w), .fr (nD n)] = .ok (.ow ((allRows w n).map natsD)) [.fr (nD w), .fr (nD n)]
theorem pow5 {w n : Nat} (hw : w ≤ 5) (hn : n ≤ 6) : w ^ n ≤ 15625 := Nat.le_trans (Nat.pow_le_pow_left hw n) (Nat.le_trans (Nat.pow_le_pow_right (by decide) hn) (by decide))
theorem rows_comp {Φ : Fns} {w : Nat} (hw : w ≤ 5) {x1 x3 x4 x5 : Sl} {L : List (List Nat)} (hL : L.length ≤ 100000) (hr : ∀ r ∈ L, r.length ≤ 100) :
    ev Φ c__law_rows_3 [.fr (nD w), x1, .bx (L.map natsD), x3, x4, x5] = .ok (.ow ((L.map fun own => (List.range w).map fun x => natsD (own ++ [x])).map .list)) [.fr (nD w), x1, .fr (.list (L.map natsD)), x3, x4, x5] := by
  have e : ((L.map fun own => (List.range w).map fun x => natsD (own ++ [x])).map PyData.list) = (L.map natsD).map fun d => match d with
      | .tuple ds => .list (((List.range w).map nD).map fun d => .tuple (ds ++ [d]))
      | d => d := by
    rw [List.map_map, List.map_map]
    refine List.map_congr_left fun own _ => ?_
    show PyData.list ((List.range w).map fun x => natsD (own ++ [x])) = PyData.list (((List.range w).map nD).map fun d => PyData.tuple (own.map nD ++ [d]))
    rw [List.map_map]
    congr 1
    exact List.map_congr_left fun x _ => nD_app own x
  rw [e]
  refine ev_comp_map (ρ1 := [.fr (nD w), x1, .fr (.list (L.map natsD)), x3, x4, x5]) (ρw := [.fr (nD w), x1, .fr (.list (L.map natsD)), x3, .no, x5]) (ds := L.map natsD) (by simp) (by simp [wipeE]) (by simp [wipeE]) (by simp [backE]) (lim_le (by simpa using hL)) fun d hd => ?_
  obtain ⟨own, ho, rfl⟩ := List.mem_map.mp hd
  have inner : ev Φ c__law_rows_1 [.fr (nD w), x1, .fr (.list (L.map natsD)), x3, .fr (natsD own), x5] = .ok (.ow (((List.range w).map nD).map fun d => .tuple (own.map nD ++ [d]))) [.fr (nD w), x1, .fr (.list (L.map natsD)), x3, .fr (natsD own), x5] := by
    have r := rng_ok (w := w) (by omega)
    refine ev_comp_map (ρ1 := [.fr (nD w), x1, .fr (.list (L.map natsD)), x3, .fr (natsD own), x5]) (ρw := [.fr (nD w), x1, .fr (.list (L.map natsD)), x3, .fr (natsD own), .no]) (ds := (List.range w).map nD) (by simp [r]) (by simp [wipeE]) (by simp [wipeE]) (by simp [backE]) (lim_le (by simp; omega)) fun d hd => ?_
    obtain ⟨x, hx, rfl⟩ := List.mem_map.mp hd
    have ad : binD .add (natsD own) (.tuple [nD x]) = some (.fr (.tuple (own.map nD ++ [nD x]))) := by
      unfold natsD
      exact add_tup (lim_le (by have := hr own ho; simp; omega))
    refine ⟨[.fr (nD w), x1, .fr (.list (L.map natsD)), x3, .fr (natsD own), .fr (nD x)], by simp, by simp, [.fr (nD w), x1, .fr (.list (L.map natsD)), x3, .fr (natsD own), .fr (nD x)], ?_, by simp [wipeE]⟩
    generalize natsD own = O at *
    generalize L.map natsD = LL at *
    simp [e__law_rows_0, ad]
  refine ⟨[.fr (nD w), x1, .fr (.list (L.map natsD)), x3, .fr (natsD own), x5], by simp, by simp, [.fr (nD w), x1, .fr (.list (L.map natsD)), x3, .fr (natsD own), x5], ?_, by simp [wipeE]⟩
  unfold e__law_rows_2
  rw [inner, Out.bind_ok, fz_ow]
  unfold natsD
  dsimp only
theorem v_law_rows {Φ : Fns} (hf : SFlat (Φ "_law_flat")) : SRows (fnV Φ 2 4 [0, 1] t__law_rows) := by
  intro w n hw hn
  have loop : ∃ x3 x4 x5, ex Φ l__law_rows_5 [.fr (nD w), .fr (nD n), .bx [.tuple []], .no, .no, .no] = .ok .nx [.fr (nD w), .fr (nD n), .bx ((allRows w n).map natsD), x3, x4, x5] := by
    unfold l__law_rows_5
    have r := rng_ok (w := n) (by omega)
    have ei : evi Φ (.rng1 (.var 1)) [.fr (nD w), .fr (nD n), .bx [.tuple []], .no, .no, .no] = .ok ((List.range n).map nD) [.fr (nD w), .fr (nD n), .bx [.tuple []], .no, .no, .no] := by simp [r]
    rw [ex_forr, ei, Out.bind_ok]
    obtain ⟨ρ', h1, h2⟩ := floop_invN (tg := .nm 3) (b := ex Φ b__law_rows_4) (I := fun j ρ => ∃ x3 x4 x5, ρ = [.fr (nD w), .fr (nD n), .bx ((allRows w j).map natsD), x3, x4, x5]) (ds := (List.range n).map nD) (k := 0) (ρ := [.fr (nD w), .fr (nD n), .bx [.tuple []], .no, .no, .no])
      ⟨_, _, _, rfl⟩ (by
      rintro d hd j ρ hj ⟨x3, x4, x5, rfl⟩
      rw [List.length_map, List.length_range] at hj
      have hlen := rows_len w j
      have p5 := pow5 hw (show j ≤ 6 by omega)
      have p6 := pow5 hw (show j + 1 ≤ 6 by omega)
      have c := rows_comp (Φ := Φ) hw (x1 := .fr (nD n)) (x3 := .fr d) (x4 := x4) (x5 := x5) (L := allRows w j) (by omega) (fun r hr => by have := (rows_mem.mp hr).1; omega)
      have fl : ((allRows w j).map fun own => (List.range w).map fun x => natsD (own ++ [x])).flatten = (allRows w (j + 1)).map natsD := by
        show _ = ((allRows w j).flatMap fun own => (List.range w).map fun x => own ++ [x]).map natsD
        rw [List.map_flatMap, List.flatMap_def]
        exact congrArg List.flatten (List.map_congr_left fun own _ => by rw [List.map_map]; exact List.map_congr_left fun x _ => by rfl)
      have k := hf ((allRows w j).map fun own => (List.range w).map fun x => natsD (own ++ [x])) (by rw [fl, List.length_map, rows_len]; omega)
      rw [fl] at k
      refine ⟨[.fr (nD w), .fr (nD n), .bx ((allRows w j).map natsD), .fr d, x4, x5], by simp, [.fr (nD w), .fr (nD n), .bx ((allRows w (j + 1)).map natsD), .fr d, x4, x5], ?_, _, _, _, rfl⟩
      generalize ((allRows w j).map fun own => (List.range w).map fun x => natsD (own ++ [x])).map PyData.list = C at *
      generalize (allRows w (j + 1)).map natsD = A1 at *
      generalize (allRows w j).map natsD = A0 at *
      simp [b__law_rows_4, c, k])
    rw [List.length_map, List.length_range, Nat.zero_add] at h2
    obtain ⟨x3, x4, x5, rfl⟩ := h2
    exact ⟨x3, x4, x5, h1⟩
  obtain ⟨x3, x4, x5, h⟩ := loop
  rw [fnV_eq (by simp)]
  generalize (allRows w n).map natsD = A at *
  simp [t__law_rows, h]
/-! drawn machines -/
structure StOk (w m : Nat) (s : List Nat × List Nat) : Prop where
  outs : s.1.Perm (List.range w)
  nlen : s.2.length = w
  nexts : ∀ k ∈ s.2, k < m
theorem mok_of {w : Nat} {sts : List (List Nat × List Nat)} (h2 : 2 ≤ w) (h5 : w ≤ 5) (h1 : 1 ≤ sts.length) (h12 : sts.length ≤ 12) (h : ∀ s ∈ sts, StOk w sts.length s) : MOk w sts :=
  ⟨h2, h5, h1, h12, fun s hs => (h s hs).outs, fun s hs => (h s hs).nlen, fun s hs => (h s hs).nexts⟩
theorem nats_of {m : Nat} : ∀ {ys : List D}, (∀ y ∈ ys, ∃ k : Nat, k < m ∧ y = nD k) → ∃ ks : List Nat, ys = ks.map nD ∧ ∀ k ∈ ks, k < m
  | [], _ => ⟨[], rfl, by simp⟩
  | y :: ys, h => by
    obtain ⟨k, hk, rfl⟩ := h y List.mem_cons_self
    obtain ⟨ks, rfl, h2⟩ := nats_of fun z hz => h z (List.mem_cons_of_mem _ hz)
    refine ⟨k :: ks, rfl, fun j hj => ?_⟩
    rcases List.mem_cons.mp hj with rfl | q
    · exact hk
    · exact h2 j q
theorem take_v {Φ : Fns} (ht : STake (Φ "_law_take")) {n : Int} {b : Nat} {s : Sl} {ρ : Env} {e : T} (h : ρ[0]? = some s) (he : ev Φ e ρ = .ok (.fr (.int n)) ρ) (hs : Tin s b) (h0 : 0 < n) (h1 : n < 1073741824) (hb : b < 1000000000) :
    ∃ (r : Nat) (s' : Sl), (r : Int) < n ∧ Tin s' (b + 1) ∧ ev Φ (.call "_law_take" (.cons (.var 0) (.cons e .nil))) ρ = .ok (.fr (nD r)) (ρ.set 0 s') := by
  obtain ⟨r, s', r0, r1, hs', c⟩ := take_c ht h hs h0 h1 hb
  obtain ⟨k, rfl⟩ := Int.eq_ofNat_of_zero_le r0
  obtain ⟨ds, rfl⟩ := tin_bx hs
  refine ⟨k, s', r1, hs', ?_⟩
  simp [h, he, c]
theorem outs_v {Φ : Fns} (ht : STake (Φ "_law_take")) (hp : SShuffle (Φ "_law_shuffle")) {b w : Nat} {s : Sl} {ρ : Env} {n : Int} (hn : 0 < n) (hn2 : n < 1000) (h : ρ[0]? = some s) (h1 : ρ[1]? = some (.fr (nD w))) (hw : w ≤ 1000) (hs : Tin s b) (hb : b + 200000 < 1000000000) :
    ∃ (o : List Nat) (s' : Sl), o.Perm (List.range w) ∧ Tin s' (b + 1 + w) ∧ ev Φ (.ite (.cmp .eq (.call "_law_take" (.cons (.var 0) (.cons (.lit (.int n)) .nil))) (.lit (.int 0))) (.tupIt (.rng1 (.var 1))) (.call "_law_shuffle" (.cons (.var 0) (.cons (.var 1) .nil)))) ρ = .ok (.fr (natsD o)) (ρ.set 0 s') := by
  obtain ⟨r, s', r1, hs', e⟩ := take_v ht (e := .lit (.int n)) h (by simp) hs hn (by omega) (by omega)
  have hl : 0 < ρ.length := by
    rcases Nat.eq_zero_or_pos ρ.length with z | z
    · rw [List.eq_nil_of_length_eq_zero z] at h; cases h
    · exact z
  have g0 : (ρ.set 0 s')[0]? = some s' := List.getElem?_set_self hl
  have g1 : (ρ.set 0 s')[1]? = some (.fr (nD w)) := by rw [List.getElem?_set_ne (by decide)]; exact h1
  rw [ev_ite, ev_cmp, e]
  by_cases q : r = 0
  · refine ⟨List.range w, s', List.Perm.refl _, tin_mono hs' (by omega), ?_⟩
    have rg := rng_ok (w := w) (by omega)
    have tv : ∀ ρ, tupV ((List.range w).map nD) ρ = .ok (.fr (natsD (List.range w))) ρ := fun ρ => tupV_ok (by simp [LIM]; omega)
    generalize ρ.set 0 s' = R at *
    generalize natsD (List.range w) = N at *
    simp [q, g1, rg, tv]
  · obtain ⟨o, s2, ho, hs2, e2⟩ := hp (b + 1) s' w hs' hw (by omega)
    refine ⟨o, s2, ho, hs2, ?_⟩
    have c := callV_bf (F := Φ "_law_shuffle") (i := 0) (ρ := ρ.set 0 s') (a := nD w) g0
    rw [e2] at c
    obtain ⟨ds', rfl⟩ := tin_bx hs'
    have ss : (ρ.set 0 (.bx ds')).set 0 s2 = ρ.set 0 s2 := List.set_set ..
    rw [callO_fr, putSl_bx, putSl_fr, ss] at c
    simp only [putSl_nil] at c
    generalize ρ.set 0 (.bx ds') = R at *
    simp [q, g0, g1, c]
theorem tin_i {s : Sl} {b : Nat} (h : Tin s b) : ∃ ds, s = .bx ds := tin_bx h
abbrev SAny (F : FnV) : Prop := ∀ (b : Nat) (s : Sl) (w m : Nat), Tin s b → 2 ≤ w → w ≤ 5 → 1 ≤ m → m ≤ 12 → b + 300000 < 1000000000 →
  ∃ sts s', MOk w sts ∧ sts.length ≤ m ∧ Tin s' (b + 200) ∧ F [s, .fr (nD w), .fr (nD m)] = .ok (.fr (mD w sts)) [s', .fr (nD w), .fr (nD m)]
theorem v_law_any {Φ : Fns} (ht : STake (Φ "_law_take")) (hp : SShuffle (Φ "_law_shuffle")) : SAny (fnV Φ 3 5 [0, 1, 2] t__law_any) := by
  intro b s w m hs w2 w5 m1 m12 hb
  obtain ⟨d0, rfl⟩ := tin_bx hs
  -- how many
  obtain ⟨r, s1, r1, hs1, e1⟩ := take_v ht (ρ := [.bx d0, .fr (nD w), .fr (nD m), .no, .no, .no, .no, .no]) (e := .var 2) rfl (by simp) hs (n := (m : Int)) (by omega) (by omega) (by omega)
  obtain ⟨d1, rfl⟩ := tin_bx hs1
  simp only [List.set_cons_zero] at e1
  have em : (1 : Int) + (r : Int) = ((r + 1 : Nat) : Int) := by omega
  obtain ⟨M, hM⟩ : ∃ M, M = r + 1 := ⟨_, rfl⟩
  rw [← hM] at em
  -- one state
  have body : ∀ (b : Nat) (s : Sl) (sts : List (List Nat × List Nat)) (k : D) (x6 x7 : Sl), Tin s b → b + 200000 < 1000000000 → sts.length ≤ 20 → ∃ (st : List Nat × List Nat) (s' y6 y7 : Sl), StOk w M st ∧ Tin s' (b + 11) ∧
      ex Φ b__law_any_2 [s, .fr (nD w), .fr (nD m), .fr (nD M), .bx (sts.map stD), .fr k, x6, x7] = .ok .nx [s', .fr (nD w), .fr (nD m), .fr (nD M), .bx ((sts ++ [st]).map stD), .fr k, y6, y7] := by
    intro b s sts k x6 x7 hs hb hl
    obtain ⟨o, s1, ho, hs1, eo⟩ := outs_v ht hp (n := 3) (by decide) (by decide) (ρ := [s, .fr (nD w), .fr (nD m), .fr (nD M), .bx (sts.map stD), .fr k, x6, x7]) (w := w) rfl rfl (by omega) hs (by omega)
    simp only [List.set_cons_zero] at eo
    have rg := rng_ok (w := w) (by omega)
    obtain ⟨ys, ρ', c1, c2, c3, s2, x7', hs2, rfl⟩ := ev_comp_invN (Φ := Φ) (tg := .nm 7) (own := [7]) (it := .rng1 (.var 1)) (c := .nil) (e := e__law_any_0) (ρ := [s1, .fr (nD w), .fr (nD m), .fr (nD M), .bx (sts.map stD), .fr k, .fr (natsD o), x7]) (ρ1 := [s1, .fr (nD w), .fr (nD m), .fr (nD M), .bx (sts.map stD), .fr k, .fr (natsD o), x7])
      (ds := (List.range w).map nD) (k := 0) (I := fun j ρ => ∃ s x, Tin s (b + 1 + w + j) ∧ ρ = [s, .fr (nD w), .fr (nD m), .fr (nD M), .bx (sts.map stD), .fr k, .fr (natsD o), x]) (P := fun y => ∃ k : Nat, k < M ∧ y = nD k)
      (by simp [rg]) ⟨s1, .no, hs1, by simp [wipeE]⟩ (lim_le (by simp; omega)) (by
      rintro d hd j ρ hj ⟨s, x, hs, rfl⟩
      rw [List.length_map, List.length_range] at hj
      obtain ⟨r, s', r1, hs', e⟩ := take_v ht (ρ := [s, .fr (nD w), .fr (nD m), .fr (nD M), .bx (sts.map stD), .fr k, .fr (natsD o), .fr d]) (e := .var 3) rfl (by simp) hs (n := (M : Int)) (by omega) (by omega) (by omega)
      refine ⟨[s, .fr (nD w), .fr (nD m), .fr (nD M), .bx (sts.map stD), .fr k, .fr (natsD o), .fr d], by simp [wipeE], by simp, nD r, [s', .fr (nD w), .fr (nD m), .fr (nD M), .bx (sts.map stD), .fr k, .fr (natsD o), .fr d], ?_, ⟨r, by omega, rfl⟩, s', .no, hs', by simp [wipeE]⟩
      unfold e__law_any_0
      rw [e]
      rfl)
    rw [List.length_map, List.length_range] at c2 hs2
    obtain ⟨ks, rfl, hk⟩ := nats_of c3
    rw [List.length_map] at c2
    obtain ⟨d2, rfl⟩ := tin_bx hs2
    refine ⟨(o, ks), .bx d2, .fr (natsD o), x7, ⟨ho, c2, hk⟩, tin_mono hs2 (by omega), ?_⟩
    have cc : ev Φ c__law_any_1 [s1, .fr (nD w), .fr (nD m), .fr (nD M), .bx (sts.map stD), .fr k, .fr (natsD o), x7] = .ok (.ow (ks.map nD)) [.bx d2, .fr (nD w), .fr (nD m), .fr (nD M), .bx (sts.map stD), .fr k, .fr (natsD o), x7] := by
      unfold c__law_any_1
      rw [c1]
      simp [backE]
    have ap : methD .append (sts.map stD) [.tuple [natsD o, .tuple (ks.map nD)]] = some (.fr .none, (sts ++ [(o, ks)]).map stD) := by
      rw [app_ok (by simp [LIM]; omega), List.map_append]
      rfl
    obtain ⟨d1, rfl⟩ := tin_bx hs1
    obtain ⟨dd, rfl⟩ := tin_bx hs
    generalize (sts ++ [(o, ks)]).map stD = S1 at *
    generalize sts.map stD = S0 at *
    generalize natsD o = O at *
    generalize ks.map nD = K at *
    unfold b__law_any_2
    rw [ex_seq, ex_set, eo]
    simp [cc, ap]
  have loop : ∃ (sts : List (List Nat × List Nat)) (s' x5 x6 x7 : Sl), sts.length = M ∧ (∀ st ∈ sts, StOk w M st) ∧ Tin s' (b + 1 + 11 * M) ∧ ex Φ l__law_any_3 [.bx d1, .fr (nD w), .fr (nD m), .fr (nD M), .bx [], .no, .no, .no] = .ok .nx [s', .fr (nD w), .fr (nD m), .fr (nD M), .bx (sts.map stD), x5, x6, x7] := by
    unfold l__law_any_3
    have rg := rng_ok (w := M) (by omega)
    have ei : evi Φ (.rng1 (.var 3)) [.bx d1, .fr (nD w), .fr (nD m), .fr (nD M), .bx [], .no, .no, .no] = .ok ((List.range M).map nD) [.bx d1, .fr (nD w), .fr (nD m), .fr (nD M), .bx [], .no, .no, .no] := by simp [rg]
    rw [ex_forr, ei, Out.bind_ok]
    obtain ⟨ρ', h1, h2⟩ := floop_invN (tg := .nm 5) (b := ex Φ b__law_any_2) (I := fun j ρ => ∃ (s : Sl) (sts : List (List Nat × List Nat)) (x5 x6 x7 : Sl), Tin s (b + 1 + 11 * j) ∧ sts.length = j ∧ (∀ st ∈ sts, StOk w M st) ∧ ρ = [s, .fr (nD w), .fr (nD m), .fr (nD M), .bx (sts.map stD), x5, x6, x7]) (ds := (List.range M).map nD) (k := 0) (ρ := [.bx d1, .fr (nD w), .fr (nD m), .fr (nD M), .bx [], .no, .no, .no])
      ⟨_, [], _, _, _, hs1, rfl, by simp, rfl⟩ (by
      rintro d hd j ρ hj ⟨s, sts, x5, x6, x7, hs, hl, hst, rfl⟩
      rw [List.length_map, List.length_range] at hj
      obtain ⟨st, s', y6, y7, q1, q2, q3⟩ := body (b + 1 + 11 * j) s sts d x6 x7 hs (by omega) (by omega)
      refine ⟨[s, .fr (nD w), .fr (nD m), .fr (nD M), .bx (sts.map stD), .fr d, x6, x7], by simp, _, q3, s', sts ++ [st], _, _, _, tin_mono q2 (by omega), by simp [hl], fun z hz => ?_, rfl⟩
      rcases List.mem_append.mp hz with q | q
      · exact hst z q
      · cases q with
        | head => exact q1
        | tail _ q => cases q)
    rw [List.length_map, List.length_range, Nat.zero_add] at h2
    obtain ⟨s', sts, x5, x6, x7, q1, q2, q3, rfl⟩ := h2
    exact ⟨sts, s', x5, x6, x7, q2, q3, q1, h1⟩
  obtain ⟨sts, s', x5, x6, x7, q2, q3, q1, h1⟩ := loop
  obtain ⟨d2, rfl⟩ := tin_bx q1
  refine ⟨sts, .bx d2, mok_of w2 w5 (by omega) (by omega) (by rw [q2]; exact q3), by omega, tin_mono q1 (by omega), ?_⟩
  rw [fnV_eq (by simp)]
  have fin : mD w sts = .tuple [nD w, .tuple (sts.map stD)] := rfl
  rw [fin]
  simp only [List.cons_append, List.nil_append, List.replicate]
  unfold t__law_any
  rw [ex_seq, ex_set, ev_bin, ev_lit, Out.bind_ok, e1]
  generalize sts.map stD = S1 at *
  simp [em, h1]
end Wk
end T_LJ
section T_LK
set_option maxHeartbeats 2000000
namespace Wk
open PySem
abbrev SBounded (F : FnV) : Prop := ∀ (b : Nat) (s : Sl) (w : Nat), Tin s b → 2 ≤ w → w ≤ 5 → b + 300000 < 1000000000 →
  ∃ sts s', MOk w sts ∧ sts.length ≤ 6 ∧ Tin s' (b + 200) ∧ F [s, .fr (nD w)] = .ok (.fr (mD w sts)) [s', .fr (nD w)]
theorem one_add (r : Nat) : (1 : Int) + (r : Int) = ((r + 1 : Nat) : Int) := by omega
theorem v_law_bounded {Φ : Fns} (ht : STake (Φ "_law_take")) (hp : SShuffle (Φ "_law_shuffle")) : SBounded (fnV Φ 2 9 [0, 1] t__law_bounded) := by
  intro b s w hs w2 w5 hb
  obtain ⟨d0, rfl⟩ := tin_bx hs
  -- how many
  obtain ⟨r1, s1, hr1, hs1, e1⟩ := take_v ht (ρ := [.bx d0, .fr (nD w), .no, .no, .no, .no, .no, .no, .no, .no, .no]) (e := .lit (.int 3)) rfl (by simp) hs (n := 3) (by decide) (by decide) (by omega)
  obtain ⟨d1, rfl⟩ := tin_bx hs1
  simp only [List.set_cons_zero] at e1
  obtain ⟨r2, s2, hr2, hs2, e2⟩ := take_v ht (ρ := [.bx d1, .fr (nD w), .no, .no, .no, .no, .no, .no, .no, .no, .no]) (e := .lit (.int 2)) rfl (by simp) hs1 (n := 2) (by decide) (by decide) (by omega)
  obtain ⟨d2, rfl⟩ := tin_bx hs2
  simp only [List.set_cons_zero] at e2
  obtain ⟨M, hM⟩ : ∃ M, M = r1 + 1 := ⟨_, rfl⟩
  obtain ⟨E, hE⟩ : ∃ E, E = r2 + 1 := ⟨_, rfl⟩
  have em : (1 : Int) + (r1 : Int) = (M : Int) := by omega
  have ee : (1 : Int) + (r2 : Int) = (E : Int) := by omega
  have hM3 : M ≤ 3 := by omega
  have hE2 : E ≤ 2 := by omega
  obtain ⟨TT, hT⟩ : ∃ TT, TT = 1 + E + M := ⟨_, rfl⟩
  have rgw := rng_ok (w := w) (by omega)
  -- those that end
  have body1 : ∀ (b : Nat) (s : Sl) (sts : List (List Nat × List Nat)) (k : Nat) (x6 x7 x8 x9 x10 : Sl), Tin s b → b + 250000 < 1000000000 → sts.length ≤ 20 → k < E → ∃ (st : List Nat × List Nat) (s' y6 y10 : Sl), StOk w TT st ∧ Tin s' (b + 20) ∧
      ex Φ b__law_bounded_2 [s, .fr (nD w), .fr (nD M), .fr (nD E), .bx (sts.map stD), .fr (nD k), x6, x7, x8, x9, x10] = .ok .nx [s', .fr (nD w), .fr (nD M), .fr (nD E), .bx ((sts ++ [st]).map stD), .fr (nD k), y6, x7, x8, x9, y10] := by
    intro b s sts k x6 x7 x8 x9 x10 hs hb hl hk
    obtain ⟨ys, ρ', c1, c2, c3, s2, x10', hs2, rfl⟩ := ev_comp_invN (Φ := Φ) (tg := .nm 10) (own := [10]) (it := .rng1 (.var 1)) (c := .nil) (e := e__law_bounded_0) (ρ := [s, .fr (nD w), .fr (nD M), .fr (nD E), .bx (sts.map stD), .fr (nD k), x6, x7, x8, x9, x10]) (ρ1 := [s, .fr (nD w), .fr (nD M), .fr (nD E), .bx (sts.map stD), .fr (nD k), x6, x7, x8, x9, x10])
      (ds := (List.range w).map nD) (k := 0) (I := fun j ρ => ∃ s x, Tin s (b + 2 * j) ∧ ρ = [s, .fr (nD w), .fr (nD M), .fr (nD E), .bx (sts.map stD), .fr (nD k), x6, x7, x8, x9, x]) (P := fun y => ∃ k : Nat, k < TT ∧ y = nD k)
      (by simp [rgw]) ⟨s, .no, hs, by simp [wipeE]⟩ (lim_le (by simp; omega)) (by
      rintro d hd j ρ hj ⟨s, x, hs, rfl⟩
      rw [List.length_map, List.length_range] at hj
      obtain ⟨r, s', r1, hs', e⟩ := take_v ht (ρ := [s, .fr (nD w), .fr (nD M), .fr (nD E), .bx (sts.map stD), .fr (nD k), x6, x7, x8, x9, .fr d]) (e := .lit (.int 3)) rfl (by simp) hs (n := 3) (by omega) (by omega) (by omega)
      obtain ⟨ds', rfl⟩ := tin_bx hs'
      simp only [List.set_cons_zero] at e
      by_cases q : r = 0
      · obtain ⟨r', s2, r2, hs2, e2⟩ := take_v ht (ρ := [.bx ds', .fr (nD w), .fr (nD M), .fr (nD E), .bx (sts.map stD), .fr (nD k), x6, x7, x8, x9, .fr d]) (e := .bin .add (.var 5) (.lit (.int 1))) rfl (by simp) hs' (n := (k : Int) + 1) (by omega) (by omega) (by omega)
        simp only [List.set_cons_zero] at e2
        refine ⟨[s, .fr (nD w), .fr (nD M), .fr (nD E), .bx (sts.map stD), .fr (nD k), x6, x7, x8, x9, .fr d], by simp [wipeE], by simp, nD r', [s2, .fr (nD w), .fr (nD M), .fr (nD E), .bx (sts.map stD), .fr (nD k), x6, x7, x8, x9, .fr d], ?_, ⟨r', by omega, rfl⟩, s2, .no, tin_mono hs2 (by omega), by simp [wipeE]⟩
        unfold e__law_bounded_0
        generalize sts.map stD = S0 at *
        rw [ev_ite, ev_cmp, e]
        simp only [Out.bind_ok, ev_lit, two_eq, lay_fr, data_fr, twoO_some, cmpV_eq, eq_int, Option.map_some, Out.ofO_some, tru_eq, Option.bind_some, truth_bool, truO_some]
        rw [if_pos (by rw [q]; rfl), e2]
        rfl
      · refine ⟨[s, .fr (nD w), .fr (nD M), .fr (nD E), .bx (sts.map stD), .fr (nD k), x6, x7, x8, x9, .fr d], by simp [wipeE], by simp, nD 0, [.bx ds', .fr (nD w), .fr (nD M), .fr (nD E), .bx (sts.map stD), .fr (nD k), x6, x7, x8, x9, .fr d], ?_, ⟨0, by omega, rfl⟩, .bx ds', .no, tin_mono hs' (by omega), by simp [wipeE]⟩
        unfold e__law_bounded_0
        generalize sts.map stD = S0 at *
        rw [ev_ite, ev_cmp, e]
        simp [q])
    rw [List.length_map, List.length_range] at c2 hs2
    obtain ⟨ks, rfl, hk'⟩ := nats_of c3
    rw [List.length_map] at c2
    obtain ⟨d2, rfl⟩ := tin_bx hs2
    obtain ⟨o, s3, ho, hs3, e3⟩ := hp _ _ w hs2 (by omega) (by omega)
    refine ⟨(o, ks), s3, .bx (ks.map nD), x10, ⟨ho, c2, hk'⟩, tin_mono hs3 (by omega), ?_⟩
    have cc : ev Φ c__law_bounded_1 [s, .fr (nD w), .fr (nD M), .fr (nD E), .bx (sts.map stD), .fr (nD k), x6, x7, x8, x9, x10] = .ok (.ow (ks.map nD)) [.bx d2, .fr (nD w), .fr (nD M), .fr (nD E), .bx (sts.map stD), .fr (nD k), x6, x7, x8, x9, x10] := by
      unfold c__law_bounded_1
      rw [c1]
      simp [backE]
    have ap : methD .append (sts.map stD) [.tuple [natsD o, .tuple (ks.map nD)]] = some (.fr .none, (sts ++ [(o, ks)]).map stD) := by
      rw [app_ok (by simp [LIM]; omega), List.map_append]
      rfl
    have c := callV_bf (F := Φ "_law_shuffle") (i := 0) (ρ := [.bx d2, .fr (nD w), .fr (nD M), .fr (nD E), .bx (sts.map stD), .fr (nD k), .bx (ks.map nD), x7, x8, x9, x10]) (a := nD w) (s := .bx d2) rfl
    rw [e3] at c
    obtain ⟨d3, rfl⟩ := tin_bx hs3
    generalize (sts ++ [(o, ks)]).map stD = S1 at *
    generalize sts.map stD = S0 at *
    generalize natsD o = O at *
    generalize ks.map nD = K at *
    simp [b__law_bounded_2, cc, c, ap]
  -- those on rounds
  have body2 : ∀ (b : Nat) (s : Sl) (sts : List (List Nat × List Nat)) (k : Nat) (x6 x7 x8 x9 x10 : Sl), Tin s b → b + 250000 < 1000000000 → sts.length ≤ 20 → k < M → ∃ (st : List Nat × List Nat) (s' y6 y7 y8 y9 y10 : Sl), StOk w TT st ∧ Tin s' (b + 20) ∧
      ex Φ b__law_bounded_6 [s, .fr (nD w), .fr (nD M), .fr (nD E), .bx (sts.map stD), .fr (nD k), x6, x7, x8, x9, x10] = .ok .nx [s', .fr (nD w), .fr (nD M), .fr (nD E), .bx ((sts ++ [st]).map stD), .fr (nD k), y6, y7, y8, y9, y10] := by
    intro b s sts k x6 x7 x8 x9 x10 hs hb hl hk
    obtain ⟨ds, rfl⟩ := tin_bx hs
    obtain ⟨sp, s1, hsp, hs1, e1⟩ := take_v ht (ρ := [.bx ds, .fr (nD w), .fr (nD M), .fr (nD E), .bx (sts.map stD), .fr (nD k), x6, x7, x8, x9, x10]) (e := .var 1) rfl (by simp) hs (n := (w : Int)) (by omega) (by omega) (by omega)
    obtain ⟨d1, rfl⟩ := tin_bx hs1
    simp only [List.set_cons_zero] at e1
    obtain ⟨g, hg⟩ : ∃ g, g = 1 + E + (k + 1) % M := ⟨_, rfl⟩
    have hmod : (k + 1) % M < M := Nat.mod_lt _ (by omega)
    have ec : (((k + 1) % M : Nat) : Int) = ((k : Int) + 1) % (M : Int) := by rw [Int.natCast_emod]; rfl
    have eg : (1 : Int) + (E : Int) + ((k : Int) + 1) % (M : Int) = (g : Int) := by omega
    obtain ⟨ys, ρ', c1, c2, c3, s2, x10', hs2, rfl⟩ := ev_comp_invN (Φ := Φ) (tg := .nm 10) (own := [10]) (it := .rng1 (.var 1)) (c := .nil) (e := e__law_bounded_4) (ρ := [.bx d1, .fr (nD w), .fr (nD M), .fr (nD E), .bx (sts.map stD), .fr (nD k), x6, .fr (nD g), .fr (nD sp), x9, x10]) (ρ1 := [.bx d1, .fr (nD w), .fr (nD M), .fr (nD E), .bx (sts.map stD), .fr (nD k), x6, .fr (nD g), .fr (nD sp), x9, x10])
      (ds := (List.range w).map nD) (k := 0) (I := fun j ρ => ∃ s x, Tin s (b + 1 + j) ∧ ρ = [s, .fr (nD w), .fr (nD M), .fr (nD E), .bx (sts.map stD), .fr (nD k), x6, .fr (nD g), .fr (nD sp), x9, x]) (P := fun y => ∃ k : Nat, k < TT ∧ y = nD k)
      (by simp [rgw]) ⟨.bx d1, .no, hs1, by simp [wipeE]⟩ (lim_le (by simp; omega)) (by
      rintro d hd j ρ hj ⟨s, x, hs, rfl⟩
      rw [List.length_map, List.length_range] at hj
      obtain ⟨y, hy, rfl⟩ := List.mem_map.mp hd
      by_cases q : y = sp
      · refine ⟨[s, .fr (nD w), .fr (nD M), .fr (nD E), .bx (sts.map stD), .fr (nD k), x6, .fr (nD g), .fr (nD sp), x9, .fr (nD y)], by simp [wipeE], by simp, nD g, [s, .fr (nD w), .fr (nD M), .fr (nD E), .bx (sts.map stD), .fr (nD k), x6, .fr (nD g), .fr (nD sp), x9, .fr (nD y)], ?_, ⟨g, by omega, rfl⟩, s, .no, tin_mono hs (by omega), by simp [wipeE]⟩
        generalize sts.map stD = S0 at *
        simp [e__law_bounded_4, q]
      · have q' : ¬ ((y : Int) = (sp : Int)) := by omega
        obtain ⟨r', s2, r2, hs2, e2⟩ := take_v ht (ρ := [s, .fr (nD w), .fr (nD M), .fr (nD E), .bx (sts.map stD), .fr (nD k), x6, .fr (nD g), .fr (nD sp), x9, .fr (nD y)]) (e := .bin .add (.var 3) (.lit (.int 1))) rfl (by simp) hs (n := (E : Int) + 1) (by omega) (by omega) (by omega)
        simp only [List.set_cons_zero] at e2
        refine ⟨[s, .fr (nD w), .fr (nD M), .fr (nD E), .bx (sts.map stD), .fr (nD k), x6, .fr (nD g), .fr (nD sp), x9, .fr (nD y)], by simp [wipeE], by simp, nD r', [s2, .fr (nD w), .fr (nD M), .fr (nD E), .bx (sts.map stD), .fr (nD k), x6, .fr (nD g), .fr (nD sp), x9, .fr (nD y)], ?_, ⟨r', by omega, rfl⟩, s2, .no, hs2, by simp [wipeE]⟩
        unfold e__law_bounded_4
        generalize sts.map stD = S0 at *
        rw [ev_ite, ev_cmp]
        simp only [ev_var, List.getElem?_cons_zero, List.getElem?_cons_succ, evVar_fr, Out.bind_ok, two_eq, lay_fr, data_fr, twoO_some, cmpV_eq, eq_int, Option.map_some, Out.ofO_some, tru_eq, Option.bind_some, truth_bool, truO_some]
        rw [if_neg (by simpa using q'), e2]
        rfl)
    rw [List.length_map, List.length_range] at c2 hs2
    obtain ⟨ks, rfl, hk'⟩ := nats_of c3
    rw [List.length_map] at c2
    obtain ⟨d2, rfl⟩ := tin_bx hs2
    obtain ⟨o, s3, ho, hs3, e3⟩ := outs_v ht hp (n := 2) (by decide) (by decide) (ρ := [.bx d2, .fr (nD w), .fr (nD M), .fr (nD E), .bx (sts.map stD), .fr (nD k), .bx (ks.map nD), .fr (nD g), .fr (nD sp), x9, x10]) (w := w) rfl rfl (by omega) hs2 (by omega)
    simp only [List.set_cons_zero] at e3
    have cc : ev Φ c__law_bounded_5 [.bx d1, .fr (nD w), .fr (nD M), .fr (nD E), .bx (sts.map stD), .fr (nD k), x6, .fr (nD g), .fr (nD sp), x9, x10] = .ok (.ow (ks.map nD)) [.bx d2, .fr (nD w), .fr (nD M), .fr (nD E), .bx (sts.map stD), .fr (nD k), x6, .fr (nD g), .fr (nD sp), x9, x10] := by
      unfold c__law_bounded_5
      rw [c1]
      simp [backE]
    have ap : methD .append (sts.map stD) [.tuple [natsD o, .tuple (ks.map nD)]] = some (.fr .none, (sts ++ [(o, ks)]).map stD) := by
      rw [app_ok (by simp [LIM]; omega), List.map_append]
      rfl
    have md := mod_int (i := (k : Int) + 1) (j := (M : Int)) (by omega)
    obtain ⟨d3, rfl⟩ := tin_bx hs3
    refine ⟨(o, ks), .bx d3, .bx (ks.map nD), .fr (nD g), .fr (nD sp), .fr (natsD o), x10, ⟨ho, c2, hk'⟩, tin_mono hs3 (by omega), ?_⟩
    generalize (sts ++ [(o, ks)]).map stD = S1 at *
    generalize sts.map stD = S0 at *
    generalize natsD o = O at *
    generalize ks.map nD = K at *
    have st1 : ex Φ (.setT (.tp (.cons (.nm 7) (.cons (.nm 8) .nil))) (.tup (.cons (.bin .add (.bin .add (.lit (.int 1)) (.var 3)) (.bin .mod (.bin .add (.var 5) (.lit (.int 1))) (.var 2))) (.cons (.call "_law_take" (.cons (.var 0) (.cons (.var 1) .nil))) .nil)))) [.bx ds, .fr (nD w), .fr (nD M), .fr (nD E), .bx S0, .fr (nD k), x6, x7, x8, x9, x10] = .ok .nx [.bx d1, .fr (nD w), .fr (nD M), .fr (nD E), .bx S0, .fr (nD k), x6, .fr (nD g), .fr (nD sp), x9, x10] := by
      rw [ex_setT, ev_tup]
      simp [md, e1, eg, -ev_call]
    unfold b__law_bounded_6
    rw [ex_seq, st1]
    simp only [Out.bind_ok, thenS_nx]
    rw [ex_seq, ex_set, cc]
    simp only [Out.bind_ok, setV_ow, List.length_cons, List.length_nil, List.set_cons_zero, List.set_cons_succ]
    rw [if_pos (by omega)]
    simp only [Out.bind_ok, thenS_nx]
    rw [ex_seq, ex_set, e3]
    simp [ap]
  -- the loops
  have rgE := rng_ok (w := E) (by omega)
  have rgM := rng_ok (w := M) (by omega)
  have tv : ∀ ρ, tupV ((List.range w).map nD) ρ = .ok (.fr (natsD (List.range w))) ρ := fun ρ => tupV_ok (by simp [LIM]; omega)
  have m2 := mul_tup (a := [.int 0]) (k := (w : Int)) (by simp; omega)
  rw [rep_one, Int.toNat_natCast] at m2
  have idle : StOk w TT (List.range w, List.replicate w 0) := ⟨List.Perm.refl _, by simp, fun k hk => by have := List.eq_of_mem_replicate hk; omega⟩
  have loop1 : ∃ (sts : List (List Nat × List Nat)) (s' x5 x6 x10 : Sl), sts.length = 1 + E ∧ (∀ st ∈ sts, StOk w TT st) ∧ Tin s' (b + 2 + 20 * E) ∧ ex Φ l__law_bounded_3 [.bx d2, .fr (nD w), .fr (nD M), .fr (nD E), .bx ([(List.range w, List.replicate w 0)].map stD), .no, .no, .no, .no, .no, .no] = .ok .nx [s', .fr (nD w), .fr (nD M), .fr (nD E), .bx (sts.map stD), x5, x6, .no, .no, .no, x10] := by
    unfold l__law_bounded_3
    have ei : evi Φ (.rng1 (.var 3)) [.bx d2, .fr (nD w), .fr (nD M), .fr (nD E), .bx ([(List.range w, List.replicate w 0)].map stD), .no, .no, .no, .no, .no, .no] = .ok ((List.range E).map nD) [.bx d2, .fr (nD w), .fr (nD M), .fr (nD E), .bx ([(List.range w, List.replicate w 0)].map stD), .no, .no, .no, .no, .no, .no] := by simp [rgE]
    rw [ex_forr, ei, Out.bind_ok]
    obtain ⟨ρ', h1, h2⟩ := floop_invN (tg := .nm 5) (b := ex Φ b__law_bounded_2) (I := fun j ρ => ∃ (s : Sl) (sts : List (List Nat × List Nat)) (x5 x6 x10 : Sl), Tin s (b + 2 + 20 * j) ∧ sts.length = 1 + j ∧ (∀ st ∈ sts, StOk w TT st) ∧ ρ = [s, .fr (nD w), .fr (nD M), .fr (nD E), .bx (sts.map stD), x5, x6, .no, .no, .no, x10]) (ds := (List.range E).map nD) (k := 0) (ρ := [.bx d2, .fr (nD w), .fr (nD M), .fr (nD E), .bx ([(List.range w, List.replicate w 0)].map stD), .no, .no, .no, .no, .no, .no])
      ⟨_, [(List.range w, List.replicate w 0)], _, _, _, hs2, rfl, fun st h => (by rw [List.mem_singleton.mp h]; exact idle), rfl⟩ (by
      rintro d hd j ρ hj ⟨s, sts, x5, x6, x10, hs, hl, hst, rfl⟩
      rw [List.length_map, List.length_range] at hj
      obtain ⟨k, hk, rfl⟩ := List.mem_map.mp hd
      obtain ⟨st, s', y6, y10, q1, q2, q3⟩ := body1 (b + 2 + 20 * j) s sts k x6 .no .no .no x10 hs (by omega) (by omega) (List.mem_range.mp hk)
      refine ⟨[s, .fr (nD w), .fr (nD M), .fr (nD E), .bx (sts.map stD), .fr (nD k), x6, .no, .no, .no, x10], by simp, _, q3, s', sts ++ [st], _, _, _, tin_mono q2 (by omega), by simp [hl]; omega, fun z hz => ?_, rfl⟩
      rcases List.mem_append.mp hz with q | q
      · exact hst z q
      · cases q with
        | head => exact q1
        | tail _ q => cases q)
    rw [List.length_map, List.length_range, Nat.zero_add] at h2
    obtain ⟨s', sts, x5, x6, x10, q1, q2, q3, rfl⟩ := h2
    exact ⟨sts, s', x5, x6, x10, q2, q3, q1, h1⟩
  obtain ⟨sts1, s3, x5, x6, x10, l1, ok1, hs3, lp1⟩ := loop1
  obtain ⟨d3, rfl⟩ := tin_bx hs3
  have loop2 : ∃ (sts : List (List Nat × List Nat)) (s' y5 y6 y7 y8 y9 y10 : Sl), sts.length = 1 + E + M ∧ (∀ st ∈ sts, StOk w TT st) ∧ Tin s' (b + 2 + 20 * E + 20 * M) ∧ ex Φ l__law_bounded_7 [.bx d3, .fr (nD w), .fr (nD M), .fr (nD E), .bx (sts1.map stD), x5, x6, .no, .no, .no, x10] = .ok .nx [s', .fr (nD w), .fr (nD M), .fr (nD E), .bx (sts.map stD), y5, y6, y7, y8, y9, y10] := by
    unfold l__law_bounded_7
    have ei : evi Φ (.rng1 (.var 2)) [.bx d3, .fr (nD w), .fr (nD M), .fr (nD E), .bx (sts1.map stD), x5, x6, .no, .no, .no, x10] = .ok ((List.range M).map nD) [.bx d3, .fr (nD w), .fr (nD M), .fr (nD E), .bx (sts1.map stD), x5, x6, .no, .no, .no, x10] := by simp [rgM]
    rw [ex_forr, ei, Out.bind_ok]
    obtain ⟨ρ', h1, h2⟩ := floop_invN (tg := .nm 5) (b := ex Φ b__law_bounded_6) (I := fun j ρ => ∃ (s : Sl) (sts : List (List Nat × List Nat)) (x5 x6 x7 x8 x9 x10 : Sl), Tin s (b + 2 + 20 * E + 20 * j) ∧ sts.length = 1 + E + j ∧ (∀ st ∈ sts, StOk w TT st) ∧ ρ = [s, .fr (nD w), .fr (nD M), .fr (nD E), .bx (sts.map stD), x5, x6, x7, x8, x9, x10]) (ds := (List.range M).map nD) (k := 0) (ρ := [.bx d3, .fr (nD w), .fr (nD M), .fr (nD E), .bx (sts1.map stD), x5, x6, .no, .no, .no, x10])
      ⟨_, sts1, _, _, _, _, _, _, hs3, l1, ok1, rfl⟩ (by
      rintro d hd j ρ hj ⟨s, sts, x5, x6, x7, x8, x9, x10, hs, hl, hst, rfl⟩
      rw [List.length_map, List.length_range] at hj
      obtain ⟨k, hk, rfl⟩ := List.mem_map.mp hd
      obtain ⟨st, s', y6, y7, y8, y9, y10, q1, q2, q3⟩ := body2 (b + 2 + 20 * E + 20 * j) s sts k x6 x7 x8 x9 x10 hs (by omega) (by omega) (List.mem_range.mp hk)
      refine ⟨[s, .fr (nD w), .fr (nD M), .fr (nD E), .bx (sts.map stD), .fr (nD k), x6, x7, x8, x9, x10], by simp, _, q3, s', sts ++ [st], _, _, _, _, _, _, tin_mono q2 (by omega), by simp [hl]; omega, fun z hz => ?_, rfl⟩
      rcases List.mem_append.mp hz with q | q
      · exact hst z q
      · cases q with
        | head => exact q1
        | tail _ q => cases q)
    rw [List.length_map, List.length_range, Nat.zero_add] at h2
    obtain ⟨s', sts, y5, y6, y7, y8, y9, y10, q1, q2, q3, rfl⟩ := h2
    exact ⟨sts, s', y5, y6, y7, y8, y9, y10, q2, q3, q1, h1⟩
  obtain ⟨sts, s4, y5, y6, y7, y8, y9, y10, l2, ok2, hs4, lp2⟩ := loop2
  obtain ⟨d4, rfl⟩ := tin_bx hs4
  refine ⟨sts, .bx d4, mok_of w2 w5 (by omega) (by omega) (by rw [l2, ← hT]; exact ok2), by omega, tin_mono hs4 (by omega), ?_⟩
  rw [fnV_eq (by simp)]
  have fin : mD w sts = .tuple [nD w, .tuple (sts.map stD)] := rfl
  have st0 : [(List.range w, List.replicate w 0)].map stD = [.tuple [natsD (List.range w), .tuple (List.replicate w (.int 0))]] := by simp [stD, natsD]
  rw [st0] at lp1
  rw [fin]
  simp only [List.cons_append, List.nil_append, List.replicate]
  generalize sts.map stD = S2 at *
  generalize sts1.map stD = S1 at *
  generalize List.replicate w (PyData.int 0) = Z at *
  generalize natsD (List.range w) = NR at *
  have st1 : ex Φ (.setT (.tp (.cons (.nm 2) (.cons (.nm 3) .nil))) (.tup (.cons (.bin .add (.lit (.int 1)) (.call "_law_take" (.cons (.var 0) (.cons (.lit (.int 3)) .nil)))) (.cons (.bin .add (.lit (.int 1)) (.call "_law_take" (.cons (.var 0) (.cons (.lit (.int 2)) .nil)))) .nil)))) [.bx d0, .fr (nD w), .no, .no, .no, .no, .no, .no, .no, .no, .no] = .ok .nx [.bx d2, .fr (nD w), .fr (nD M), .fr (nD E), .no, .no, .no, .no, .no, .no, .no] := by
    rw [ex_setT, ev_tup]
    simp [e1, e2, em, ee, -ev_call]
  unfold t__law_bounded
  rw [ex_seq, st1]
  simp [rgw, tv, m2, lp1, lp2]
end Wk
end T_LK
section T_LL
set_option maxHeartbeats 2000000
namespace Wk
open PySem
def sortsS : List (List Nat × List Nat) := [([1, 0], [4, 4]), ([0, 1], [0, 2]), ([0, 1], [0, 3]), ([0, 1], [4, 1]), ([0, 1], [4, 4])]
def flipS : List (List Nat × List Nat) := [([1, 0], [0, 1]), ([0, 1], [0, 1])]
def basS : List (List Nat × List Nat) := [([1, 0], [1, 0]), ([0, 1], [1, 1]), ([0, 1], [2, 0])]
def bas2S : List (List Nat × List Nat) := [([1, 0], [2, 1]), ([0, 1], [2, 0]), ([0, 1], [2, 2])]
def mokB (w : Nat) (sts : List (List Nat × List Nat)) : Bool := decide (2 ≤ w) && decide (w ≤ 5) && decide (1 ≤ sts.length) && decide (sts.length ≤ 12) && sts.all fun s => s.1.isPerm (List.range w) && decide (s.2.length = w) && s.2.all fun k => decide (k < sts.length)
theorem mok_b {w : Nat} {sts : List (List Nat × List Nat)} (h : mokB w sts = true) : MOk w sts := by
  unfold mokB at h
  simp only [Bool.and_eq_true, decide_eq_true_eq, List.all_eq_true] at h
  obtain ⟨⟨⟨⟨h1, h2⟩, h3⟩, h4⟩, h5⟩ := h
  exact ⟨h1, h2, h3, h4, fun s hs => List.isPerm_iff.mp (h5 s hs).1.1, fun s hs => (h5 s hs).1.2, fun s hs => (h5 s hs).2⟩
abbrev SSorts (F : FnV) : Prop := F [] = .ok (.fr (mD 2 sortsS)) []
theorem tupV_5 {a b c d e : D} {ρ : Env} : tupV [a, b, c, d, e] ρ = .ok (.fr (.tuple [a, b, c, d, e])) ρ := tupV_ok (by simp [LIM])
theorem v_law_sorts {Φ : Fns} : SSorts (fnV Φ 0 0 [] t__law_sorts) := by
  show fnV Φ 0 0 [] t__law_sorts [] = _
  rw [fnV_eq (by simp)]
  have e : mD 2 sortsS = .tuple [.int 2, .tuple [.tuple [.tuple [.int 1, .int 0], .tuple [.int 4, .int 4]], .tuple [.tuple [.int 0, .int 1], .tuple [.int 0, .int 2]], .tuple [.tuple [.int 0, .int 1], .tuple [.int 0, .int 3]], .tuple [.tuple [.int 0, .int 1], .tuple [.int 4, .int 1]], .tuple [.tuple [.int 0, .int 1], .tuple [.int 4, .int 4]]]] := rfl
  rw [e]
  simp [t__law_sorts, tupV_5]
def knownL : List (Nat × List (List Nat × List Nat)) := [(2, addS 2), (3, addS 3), (2, sortsS), (2, flipS), (2, basS), (2, bas2S)]
def mD' (p : Nat × List (List Nat × List Nat)) : D := mD p.1 p.2
abbrev SKnown (F : FnV) : Prop := F [] = .ok (.ow (knownL.map mD')) []
theorem v_law_known {Φ : Fns} (ha : SAdd (Φ "_law_add")) (hs : SSorts (Φ "_law_sorts")) : SKnown (fnV Φ 0 1 [] t__law_known) := by
  show fnV Φ 0 1 [] t__law_known [] = _
  rw [fnV_eq (by simp)]
  have a2 := ha 2 (by decide) (by decide)
  have a3 := ha 3 (by decide) (by decide)
  have hs : Φ "_law_sorts" [] = .ok (.fr (mD 2 sortsS)) [] := hs
  have e1 : mD 2 flipS = .tuple [.int 2, .tuple [.tuple [.tuple [.int 1, .int 0], .tuple [.int 0, .int 1]], .tuple [.tuple [.int 0, .int 1], .tuple [.int 0, .int 1]]]] := rfl
  have e2 : mD 2 basS = .tuple [.int 2, .tuple [.tuple [.tuple [.int 1, .int 0], .tuple [.int 1, .int 0]], .tuple [.tuple [.int 0, .int 1], .tuple [.int 1, .int 1]], .tuple [.tuple [.int 0, .int 1], .tuple [.int 2, .int 0]]]] := rfl
  have e3 : mD 2 bas2S = .tuple [.int 2, .tuple [.tuple [.tuple [.int 1, .int 0], .tuple [.int 2, .int 1]], .tuple [.tuple [.int 0, .int 1], .tuple [.int 2, .int 0]], .tuple [.tuple [.int 0, .int 1], .tuple [.int 2, .int 2]]]] := rfl
  have ek : knownL.map mD' = [mD 2 (addS 2), mD 3 (addS 3), mD 2 sortsS, mD 2 flipS, mD 2 basS, mD 2 bas2S] := rfl
  have a2 : Φ "_law_add" [.fr (.int 2)] = .ok (.fr (mD 2 (addS 2))) [.fr (.int 2)] := a2
  have a3 : Φ "_law_add" [.fr (.int 3)] = .ok (.fr (mD 3 (addS 3))) [.fr (.int 3)] := a3
  rw [ek, e1, e2, e3]
  generalize mD 2 (addS 2) = M2 at *
  generalize mD 3 (addS 3) = M3 at *
  generalize mD 2 sortsS = M4 at *
  have ad : ∀ a b c d e f : D, binD .add (.list [a, b, c, d]) (.list [e, f]) = some (.ow [a, b, c, d, e, f]) := fun a b c d e f => by rw [add_lst (by simp [LIM])]; rfl
  simp [t__law_known, a2, a3, hs, ad]
theorem known_ok : ∀ p ∈ knownL, MOk p.1 p.2 ∧ p.1 ≤ 3 ∧ p.2.length ≤ 6 := by
  intro p hp
  have h : (knownL.all fun p => mokB p.1 p.2 && decide (p.1 ≤ 3) && decide (p.2.length ≤ 6)) = true := by decide +kernel
  have q := List.all_eq_true.mp h p hp
  simp only [Bool.and_eq_true, decide_eq_true_eq] at q
  exact ⟨mok_b q.1.1, q.1.2, q.2⟩
abbrev SSome (F : FnV) : Prop := ∀ (b : Nat) (s : Sl), Tin s b → b + 400000 < 1000000000 → ∃ w sts s', MOk w sts ∧ w ≤ 3 ∧ sts.length ≤ 6 ∧ Tin s' (b + 300) ∧ F [s] = .ok (.fr (mD w sts)) [s']
theorem of_v {Φ : Fns} (hf : SOf (Φ "_law_of")) {b : Nat} {s : Sl} {ρ : Env} {e : T} {gs : List D} {v : Vl} (h : ρ[0]? = some s) (he : ev Φ e ρ = .ok v ρ) (hv : v.lay = .fr (.list gs)) (hs : Tin s b) (h1 : 1 ≤ gs.length) (h2 : gs.length ≤ 100000) (hb : b < 1000000000) :
    ∃ (g : D) (s' : Sl), g ∈ gs ∧ Tin s' (b + 1) ∧ ev Φ (.call "_law_of" (.cons (.var 0) (.cons e .nil))) ρ = .ok (.fr g) (ρ.set 0 s') := by
  obtain ⟨g, s', hg, hs', q⟩ := hf b s gs hs h1 h2 hb
  have c := callV_bf (F := Φ "_law_of") (i := 0) (ρ := ρ) (a := .list gs) h
  rw [q] at c
  obtain ⟨ds, rfl⟩ := tin_bx hs
  refine ⟨g, s', hg, hs', ?_⟩
  simp [h, he, hv, c]
theorem v_law_some {Φ : Fns} (ht : STake (Φ "_law_take")) (hf : SOf (Φ "_law_of")) (hk : SKnown (Φ "_law_known")) (hb' : SBounded (Φ "_law_bounded")) (ha : SAny (Φ "_law_any")) : SSome (fnV Φ 1 1 [0] t__law_some) := by
  intro b s hs hb
  obtain ⟨d0, rfl⟩ := tin_bx hs
  have hk : Φ "_law_known" [] = .ok (.ow (knownL.map mD')) [] := hk
  obtain ⟨r, s1, r1, hs1, e1⟩ := take_v ht (ρ := [.bx d0, .no]) (e := .lit (.int 4)) rfl (by simp) hs (n := 4) (by decide) (by decide) (by omega)
  obtain ⟨d1, rfl⟩ := tin_bx hs1
  simp only [List.set_cons_zero] at e1
  by_cases q0 : r = 0
  · obtain ⟨g, s2, hg, hs2, e2⟩ := of_v hf (ρ := [.bx d1, .fr (nD r)]) (e := .call "_law_known" .nil) (v := .ow (knownL.map mD')) rfl (by rw [ev_call, evs_nil, Out.bind_ok, callV_0, hk, callO_ow, putSl_nil]) rfl hs1 (by decide) (by decide) (by omega)
    obtain ⟨p, hp, rfl⟩ := List.mem_map.mp hg
    obtain ⟨m1, m2, m3⟩ := known_ok p hp
    simp only [List.set_cons_zero] at e2
    obtain ⟨d2, rfl⟩ := tin_bx hs2
    refine ⟨p.1, p.2, .bx d2, m1, m2, m3, tin_mono hs2 (by omega), ?_⟩
    rw [fnV_eq (by simp)]
    simp only [List.cons_append, List.nil_append, List.replicate]
    unfold t__law_some
    show _ = Out.ok (Vl.fr (mD' p)) _
    generalize mD' p = P at *
    rw [ex_seq, ex_set, e1]
    subst q0
    simp only [Out.bind_ok, setV_fr, List.length_cons, List.length_nil, List.set_cons_zero, List.set_cons_succ]
    rw [if_pos (by omega)]
    simp only [Out.bind_ok, thenS_nx]
    simp [e2, -ev_call]
  · obtain ⟨x, s2, x1, hs2, e2⟩ := take_v ht (ρ := [.bx d1, .fr (nD r)]) (e := .lit (.int 2)) rfl (by simp) hs1 (n := 2) (by decide) (by decide) (by omega)
    obtain ⟨d2, rfl⟩ := tin_bx hs2
    simp only [List.set_cons_zero] at e2
    obtain ⟨X, hX⟩ : ∃ X, X = x + 2 := ⟨_, rfl⟩
    have e2x : (2 : Int) + (x : Int) = (X : Int) := by omega
    have q0' : ¬ ((r : Int) = 0) := by omega
    by_cases q1 : (r : Int) < 3
    · obtain ⟨sts, s3, m1, m2, hs3, e3⟩ := hb' _ _ X hs2 (by omega) (by omega) (by omega)
      have c := callV_bf (F := Φ "_law_bounded") (i := 0) (ρ := [.bx d2, .fr (nD r)]) (a := nD X) (s := .bx d2) rfl
      rw [e3] at c
      obtain ⟨d3, rfl⟩ := tin_bx hs3
      refine ⟨X, sts, .bx d3, m1, by omega, m2, tin_mono hs3 (by omega), ?_⟩
      rw [fnV_eq (by simp)]
      simp only [List.cons_append, List.nil_append, List.replicate]
      unfold t__law_some
      generalize mD X sts = P at *
      rw [ex_seq, ex_set, e1]
      simp only [Out.bind_ok, setV_fr, List.length_cons, List.length_nil, List.set_cons_zero, List.set_cons_succ]
      rw [if_pos (by omega)]
      simp only [Out.bind_ok, thenS_nx]
      have bnd : ev Φ (.call "_law_bounded" (.cons (.var 0) (.cons (.bin .add (.lit (.int 2)) (.call "_law_take" (.cons (.var 0) (.cons (.lit (.int 2)) .nil)))) .nil))) [.bx d1, .fr (nD r)] = .ok (.fr P) [.bx d3, .fr (nD r)] := by
        rw [ev_call, evs_cons, ev_var]
        simp only [List.getElem?_cons_zero, evVar_bx, Out.bind_ok]
        rw [evs_cons, ev_bin, ev_lit, Out.bind_ok, e2]
        simp [e2x, c]
      simp [q0, q1, bnd, -ev_call]
    · obtain ⟨sts, s3, m1, m2, hs3, e3⟩ := ha _ _ X 3 hs2 (by omega) (by omega) (by decide) (by decide) (by omega)
      have c := callV_bff (F := Φ "_law_any") (i := 0) (ρ := [.bx d2, .fr (nD r)]) (a := nD X) (b := nD 3) (s := .bx d2) rfl
      rw [e3] at c
      obtain ⟨d3, rfl⟩ := tin_bx hs3
      refine ⟨X, sts, .bx d3, m1, by omega, by omega, tin_mono hs3 (by omega), ?_⟩
      rw [fnV_eq (by simp)]
      simp only [List.cons_append, List.nil_append, List.replicate]
      unfold t__law_some
      generalize mD X sts = P at *
      rw [ex_seq, ex_set, e1]
      simp only [Out.bind_ok, setV_fr, List.length_cons, List.length_nil, List.set_cons_zero, List.set_cons_succ]
      rw [if_pos (by omega)]
      simp only [Out.bind_ok, thenS_nx]
      have c : callV (Φ "_law_any") [.bx 0, .fr (nD X), .fr (.int 3)] [.bx d2, .fr (nD r)] = _ := c
      have bnd : ev Φ (.call "_law_any" (.cons (.var 0) (.cons (.bin .add (.lit (.int 2)) (.call "_law_take" (.cons (.var 0) (.cons (.lit (.int 2)) .nil)))) (.cons (.lit (.int 3)) .nil)))) [.bx d1, .fr (nD r)] = .ok (.fr P) [.bx d3, .fr (nD r)] := by
        rw [ev_call, evs_cons, ev_var]
        simp only [List.getElem?_cons_zero, evVar_bx, Out.bind_ok]
        rw [evs_cons, ev_bin, ev_lit, Out.bind_ok, e2]
        simp [e2x, c]
      simp [q0, q1, bnd, -ev_call]
abbrev SWord (F : FnV) : Prop := ∀ (b : Nat) (s : Sl) (w : Nat) sts (n : Nat), Tin s b → MOk w sts → n ≤ 100 → b + 400000 < 1000000000 → ∃ (ws : List Int) (s' : Sl), WOk sts.length ws ∧ ws.length ≤ n ∧ sh ws = ws ∧ Tin s' (b + 2 * n) ∧ F [s, .fr (mD w sts), .fr (nD n)] = .ok (.fr (zD ws)) [s', .fr (mD w sts), .fr (nD n)]
theorem ints_of {P : Int → Prop} : ∀ {ys : List D}, (∀ y ∈ ys, ∃ k : Int, P k ∧ y = .int k) → ∃ ks : List Int, ys = zs ks ∧ ∀ k ∈ ks, P k
  | [], _ => ⟨[], rfl, by simp⟩
  | y :: ys, h => by
    obtain ⟨k, hk, rfl⟩ := h y List.mem_cons_self
    obtain ⟨ks, rfl, h2⟩ := ints_of fun z hz => h z (List.mem_cons_of_mem _ hz)
    refine ⟨k :: ks, rfl, fun j hj => ?_⟩
    rcases List.mem_cons.mp hj with rfl | q
    · exact hk
    · exact h2 j q
theorem v_law_word {Φ : Fns} (ht : STake (Φ "_law_take")) (hf : SOf (Φ "_law_of")) (hsh : SShort (Φ "_law_short")) : SWord (fnV Φ 3 1 [0, 1, 2] t__law_word) := by
  intro b s w sts n hs M hn hb
  have rg := rng_ok (w := n) (by omega)
  have ix1 := ix_m1 (w := w) (sts := sts)
  have ln := len_sts (sts := sts)
  have m1 := M.m1
  have m12 := M.m12
  obtain ⟨ys, ρ', c1, c2, c3, s2, x3, hs2, rfl⟩ := ev_comp_invN (Φ := Φ) (tg := .nm 3) (own := [3]) (it := .rng1 (.var 2)) (c := .nil) (e := e__law_word_0) (ρ := [s, .fr (mD w sts), .fr (nD n), .no]) (ρ1 := [s, .fr (mD w sts), .fr (nD n), .no])
    (ds := (List.range n).map nD) (k := 0) (I := fun j ρ => ∃ s x, Tin s (b + 2 * j) ∧ ρ = [s, .fr (mD w sts), .fr (nD n), x]) (P := fun y => ∃ k : Int, (k ≠ 0 ∧ k.natAbs ≤ sts.length) ∧ y = .int k)
    (by simp [rg]) ⟨s, .no, hs, by simp [wipeE]⟩ (lim_le (by simp; omega)) (by
    rintro d hd j ρ hj ⟨s, x, hs, rfl⟩
    rw [List.length_map, List.length_range] at hj
    obtain ⟨g, s1, hg, hs1, e1⟩ := of_v hf (ρ := [s, .fr (mD w sts), .fr (nD n), .fr d]) (e := .lst (.cons (.lit (.int 1)) (.cons (.neg (.lit (.int 1))) .nil))) (gs := [.int 1, .int (-1)]) (v := .ow [.int 1, .int (-1)]) rfl (by simp) rfl hs (by decide) (by decide) (by omega)
    obtain ⟨d1, rfl⟩ := tin_bx hs1
    simp only [List.set_cons_zero] at e1
    obtain ⟨r, s2, r1, hs2, e2⟩ := take_v ht (ρ := [.bx d1, .fr (mD w sts), .fr (nD n), .fr d]) (e := .bi .len (.cons (.ix (.var 1) (.lit (.int 1))) .nil)) (n := (sts.length : Int)) rfl (by
      generalize mD w sts = Md at *
      generalize PyData.tuple (sts.map stD) = SS at *
      simp [ix1, ln]) hs1 (by omega) (by omega) (by omega)
    simp only [List.set_cons_zero] at e2
    have key : ∀ gi : Int, (gi = 1 ∨ gi = -1) → g = .int gi → ∃ ρa, asg (.nm 3) d (wipeE [s, .fr (mD w sts), .fr (nD n), x] [3]) = some ρa ∧ evc Φ .nil ρa = .ok true ρa ∧ ∃ y ρb, ((ev Φ e__law_word_0 ρa).bind fun v r1 => v.fz r1) = .ok y ρb ∧ (∃ k : Int, (k ≠ 0 ∧ k.natAbs ≤ sts.length) ∧ y = .int k) ∧ ∃ s x, Tin s (b + 2 * (j + 1)) ∧ wipeE ρb [3] = [s, .fr (mD w sts), .fr (nD n), x] := by
      intro gi hgi hgg
      subst hgg
      have sm : small gi = true := small_of (by omega) (by omega)
      have ml := mul_int (i := gi) (j := 1 + (r : Int)) (by rw [sm]; rfl)
      refine ⟨[s, .fr (mD w sts), .fr (nD n), .fr d], by simp [wipeE], by simp, .int (gi * (1 + (r : Int))), [s2, .fr (mD w sts), .fr (nD n), .fr d], ?_, ⟨_, ?_, rfl⟩, s2, .no, tin_mono hs2 (by omega), by simp [wipeE]⟩
      · unfold e__law_word_0
        rw [ev_bin, e1, Out.bind_ok, ev_bin, ev_lit, Out.bind_ok, e2]
        simp [ml]
      · rcases hgi with rfl | rfl <;> omega
    cases hg with
    | head => exact key 1 (.inl rfl) rfl
    | tail _ hg =>
      cases hg with
      | head => exact key (-1) (.inr rfl) rfl
      | tail _ hg => cases hg)
  rw [List.length_map, List.length_range] at c2 hs2
  obtain ⟨ks, rfl, hk⟩ := ints_of c3
  rw [List.length_map] at c2
  have k1 := (hsh ks (by omega)).2.1
  have hW : WOk sts.length ks := hk
  refine ⟨sh ks, s2, hW.sh, by have := sh_len ks; omega, sh_sh ks, tin_mono hs2 (by omega), ?_⟩
  obtain ⟨d2, rfl⟩ := tin_bx hs2
  obtain ⟨d0, rfl⟩ := tin_bx hs
  have cc : ev Φ c__law_word_1 [.bx d0, .fr (mD w sts), .fr (nD n), .no] = .ok (.ow (zs ks)) [.bx d2, .fr (mD w sts), .fr (nD n), .no] := by
    unfold c__law_word_1
    rw [c1]
    simp [backE]
  rw [fnV_eq (by simp)]
  generalize mD w sts = Md at *
  generalize zD (sh ks) = P at *
  generalize zs ks = K at *
  simp [t__law_word, cc, k1]
end Wk
end T_LL
section T_L02
set_option maxHeartbeats 2000000
namespace Wk
open PySem
/-! terms (printed) -/
def e_law_0 : T := (.call "row_led" (.cons (.var 3) (.cons (.var 5) (.cons (.var 17) .nil))))
def c_law_1 : T := (.comp (.nm 17) [17] (.dat (.var 7)) .nil e_law_0)
def e_law_2 : T := (.call "_law_led" (.cons (.var 3) (.cons (.var 5) (.cons (.var 17) .nil))))
def c_law_3 : T := (.comp (.nm 17) [17] (.dat (.var 7)) .nil e_law_2)
def s_b_law_4_0 : T := (.par 10 11 (.call "row_led" (.cons (.var 3) (.cons (.var 5) (.cons (.var 9) .nil)))) (.call "_law_take" (.cons (.var 1) (.cons (.bin .add (.var 4) (.lit (.int 1))) .nil))))
def s_b_law_4_1 : T := (.set 12 (.lst (.cons (.call "row_led" (.cons (.var 3) (.cons (.var 5) (.cons (.sl (.var 9) .nil (.cons (.var 11) .nil)) .nil)))) (.cons (.call "row_led" (.cons (.var 3) (.cons (.call "word_back" (.cons (.var 3) (.cons (.var 5) .nil))) (.cons (.var 10) .nil)))) .nil))))
def s_b_law_4_2 : T := (.set 12 (.bin .add (.var 12) (.lst (.cons (.call "row_led" (.cons (.var 3) (.cons (.bin .add (.var 5) (.var 6)) (.cons (.var 9) .nil)))) (.cons (.call "row_led" (.cons (.var 3) (.cons (.call "shortened" (.cons (.var 3) (.cons (.bin .add (.var 5) (.var 6)) .nil))) (.cons (.var 9) .nil)))) .nil)))))
def s_b_law_4_3 : T := (.set 13 (.call "row_led" (.cons (.var 3) (.cons (.var 6) (.cons (.var 10) .nil)))))
def s_b_law_4_4 : T := (.ife (.cons (.not (.call "_law_same" (.cons (.var 12) (.cons (.lst (.cons (.sl (.var 10) .nil (.cons (.var 11) .nil)) (.cons (.var 9) (.cons (.var 13) (.cons (.var 13) .nil))))) .nil)))) .nil) (.seq (.ret (.lit (.bool false))) .skip) .skip)
def s_b_law_4_5 : T := (.set 14 (.call "part_at" (.cons (.var 3) (.cons (.var 5) (.cons (.sl (.var 9) .nil (.cons (.var 11) .nil)) .nil)))))
def s_b_law_4_6 : T := (.ife (.cons (.not (.call "_law_same" (.cons (.lst (.cons (.call "row_led" (.cons (.var 3) (.cons (.var 14) (.cons (.sl (.var 9) (.cons (.var 11) .nil) .nil) .nil)))) (.cons (.call "part_at" (.cons (.var 3) (.cons (.var 14) (.cons (.sl (.var 9) (.cons (.var 11) .nil) .nil) .nil)))) .nil))) (.cons (.lst (.cons (.sl (.var 10) (.cons (.var 11) .nil) .nil) (.cons (.call "part_at" (.cons (.var 3) (.cons (.var 5) (.cons (.var 9) .nil)))) .nil))) .nil)))) .nil) (.seq (.ret (.lit (.bool false))) .skip) .skip)
def s_b_law_4_7 : T := (.par 15 16 (.call "part_at" (.cons (.var 3) (.cons (.var 5) (.cons (.var 9) .nil)))) (.call "part_at" (.cons (.var 3) (.cons (.var 6) (.cons (.var 10) .nil)))))
def s_b_law_4_8 : T := (.set 12 (.lst (.cons (.call "part_at" (.cons (.var 3) (.cons (.bin .add (.var 5) (.var 6)) (.cons (.var 9) .nil)))) (.cons (.call "part_at" (.cons (.var 3) (.cons (.call "_law_back" (.cons (.var 5) .nil)) (.cons (.var 10) .nil)))) (.cons (.call "part_at" (.cons (.var 3) (.cons (.call "joined" (.cons (.var 3) (.cons (.var 5) (.cons (.var 6) .nil)))) (.cons (.var 9) .nil)))) .nil)))))
def s_b_law_4_9 : T := (.ife (.cons (.not (.call "_law_same" (.cons (.var 12) (.cons (.lst (.cons (.call "_law_short" (.cons (.bin .add (.var 15) (.var 16)) .nil)) (.cons (.call "_law_back" (.cons (.var 15) .nil)) (.cons (.call "_law_short" (.cons (.bin .add (.var 15) (.var 16)) .nil)) .nil)))) .nil)))) .nil) (.seq (.ret (.lit (.bool false))) .skip) .skip)
def b_law_4 : T := (.seq s_b_law_4_0 (.seq s_b_law_4_1 (.seq s_b_law_4_2 (.seq s_b_law_4_3 (.seq s_b_law_4_4 (.seq s_b_law_4_5 (.seq s_b_law_4_6 (.seq s_b_law_4_7 (.seq s_b_law_4_8 (.seq s_b_law_4_9 .skip))))))))))
def l_law_5 : T := (.forr (.nm 9) (.dat (.call "_law_pick" (.cons (.var 1) (.cons (.var 7) (.cons (.lit (.int 6)) .nil))))) b_law_4)
def s_b_law_6_0 : T := (.set 3 (.call "_law_some" (.cons (.var 1) .nil)))
def s_b_law_6_1 : T := (.set 4 (.bin .add (.lit (.int 1)) (.call "_law_take" (.cons (.var 1) (.cons (.lit (.int 4)) .nil)))))
def s_b_law_6_2 : T := (.setT (.tp (.cons (.nm 5) (.cons (.nm 6) .nil))) (.tup (.cons (.call "_law_word" (.cons (.var 1) (.cons (.var 3) (.cons (.call "_law_take" (.cons (.var 1) (.cons (.lit (.int 7)) .nil))) .nil)))) (.cons (.call "_law_word" (.cons (.var 1) (.cons (.var 3) (.cons (.call "_law_take" (.cons (.var 1) (.cons (.lit (.int 7)) .nil))) .nil)))) .nil))))
def s_b_law_6_3 : T := (.set 7 (.call "_law_rows" (.cons (.ix (.var 3) (.lit (.int 0))) (.cons (.var 4) .nil))))
def s_b_law_6_4 : T := (.set 8 c_law_1)
def s_b_law_6_5 : T := (.ife (.cons (.not (.call "_law_same" (.cons (.lst (.cons (.bi .sorted (.cons (.var 8) .nil)) (.cons (.var 8) .nil))) (.cons (.lst (.cons (.var 7) (.cons c_law_3 .nil))) .nil)))) .nil) (.seq (.ret (.lit (.bool false))) .skip) .skip)
def s_b_law_6_6 : T := l_law_5
def b_law_6 : T := (.seq s_b_law_6_0 (.seq s_b_law_6_1 (.seq s_b_law_6_2 (.seq s_b_law_6_3 (.seq s_b_law_6_4 (.seq s_b_law_6_5 (.seq s_b_law_6_6 .skip)))))))
def l_law_7 : T := (.forr (.nm 2) (.rng1 (.lit (.int 4))) b_law_6)
def t_law : T := (.seq (.set 1 (.call "_law_box" (.cons (.call "_law_cells" (.cons (.var 0) (.cons (.lit (.int 1)) .nil))) (.cons (.lit (.int 0)) .nil)))) (.seq l_law_7 (.seq (.ret (.lit (.bool true))) .skip)))

/-! ### sorted rows, one to one -/
def cI (a : List Nat) : List Int := a.map fun (k : Nat) => (k : Int)
theorem le_rows (a b : List Nat) : PySem.W.dataLe false id (natsD a) (natsD b) = decide (cI a ≤ cI b) := by
  show (!PySem.W.dataLt (natsD b) (natsD a)) = _
  have e : ∀ r : List Nat, natsD r = .tuple ((cI r).map .int) := fun r => by simp [natsD, cI]
  rw [e, e, PySem.W.dataLt_tuple]
  show (!PySem.W.rowLt ((cI b).map .int) ((cI a).map .int)) = _
  rw [PySem.W.dataLt_ints]
  by_cases h : cI b < cI a
  · have h' : ¬ cI a ≤ cI b := fun r => List.not_lt.mpr r h
    simp [h, h']
  · have h' : cI a ≤ cI b := List.not_lt.mp h
    simp [h, h']
theorem alike_ints : ∀ a b : List Nat, PySem.W.alikeAll (a.map nD) (b.map nD) = true
  | [], _ => by simp [PySem.W.alikeAll]
  | _ :: _, [] => by simp [PySem.W.alikeAll]
  | x :: a, y :: b => by
    have := alike_ints a b
    simp only [List.map_cons, PySem.W.alikeAll, PySem.W.alike, this, Bool.and_self]
theorem snoc_lt : ∀ (l : List Int) {x y : Int}, x < y → l ++ [x] < l ++ [y]
  | [], x, y, h => List.cons_lt_cons_iff.mpr (.inl h)
  | a :: l, x, y, h => List.cons_lt_cons_iff.mpr (.inr ⟨rfl, snoc_lt l h⟩)
theorem app_lt : ∀ {a b : List Int} {x y : Int}, a.length = b.length → a < b → a ++ [x] < b ++ [y]
  | [], [], x, y, _, h => absurd h (List.lt_irrefl _)
  | [], _ :: _, _, _, h, _ => by cases h
  | _ :: _, [], _, _, h, _ => by cases h
  | i :: a, j :: b, x, y, hl, h => by
    rcases List.cons_lt_cons_iff.mp h with q | ⟨rfl, q⟩
    · exact List.cons_lt_cons_iff.mpr (.inl q)
    · exact List.cons_lt_cons_iff.mpr (.inr ⟨rfl, app_lt (by simpa using hl) q⟩)
theorem rows_sorted (w : Nat) : ∀ n : Nat, (allRows w n).Pairwise fun a b => cI a < cI b
  | 0 => List.pairwise_singleton _ _
  | n + 1 => by
    have ih := rows_sorted w n
    show ((allRows w n).flatMap _).Pairwise _
    rw [List.pairwise_flatMap]
    refine ⟨fun own _ => ?_, ?_⟩
    · rw [List.pairwise_map]
      refine (List.pairwise_lt_range (n := w)).imp fun {x y} h => ?_
      show cI (own ++ [x]) < cI (own ++ [y])
      unfold cI
      rw [List.map_append, List.map_append]
      have h' : (x : Int) < (y : Int) := by omega
      exact snoc_lt _ h'
    · have : (allRows w n).Pairwise fun a b => (a ∈ allRows w n ∧ b ∈ allRows w n) ∧ cI a < cI b := by
        refine List.Pairwise.imp_of_mem (fun {a b} ha hb h => ⟨⟨ha, hb⟩, h⟩) ih
      refine this.imp fun {a b} h x hx y hy => ?_
      obtain ⟨⟨ha, hb⟩, h⟩ := h
      obtain ⟨i, _, rfl⟩ := List.mem_map.mp hx
      obtain ⟨j, _, rfl⟩ := List.mem_map.mp hy
      unfold cI at h ⊢
      rw [List.map_append, List.map_append]
      exact app_lt (by simp [(rows_mem.mp ha).1, (rows_mem.mp hb).1]) h
theorem rows_nodup (w n : Nat) : (allRows w n).Nodup := (rows_sorted w n).imp fun {a b} h e => by subst e; exact List.lt_irrefl _ h
theorem sort_rows {w n : Nat} (hn : 1 ≤ n) (hn2 : n ≤ 100000) {ps : List (List Nat)} (hp : ps.Perm (allRows w n)) : sortD (ps.map natsD) = some ((allRows w n).map natsD) := by
  have len : ∀ r ∈ ps, r.length = n := fun r hr => (rows_mem.mp (hp.mem_iff.mp hr)).1
  have h1 : ((ps.map natsD).all fun a => (ps.map natsD).all fun b => PySem.W.alike a b) = true := by
    simp only [List.all_map, List.all_eq_true, Function.comp]
    intro a _ b _
    show PySem.W.alike (.tuple (a.map nD)) (.tuple (b.map nD)) = true
    unfold PySem.W.alike
    exact alike_ints a b
  have h2 : ((ps.map natsD).all oneUp) = true := by
    simp only [List.all_map, List.all_eq_true, Function.comp]
    intro a ha
    have := len a ha
    cases a with
    | nil => simp at this; omega
    | cons x a => rfl
  have h3 : ((ps.map natsD).all fun d => decide (d.depth ≤ 64)) = true := by
    simp only [List.all_map, List.all_eq_true, Function.comp]
    intro a ha
    have := (fit_lay (fit_nats (n := 0) (ns := a) (by rw [len a ha]; exact hn2))).2
    exact decide_eq_true (by omega)
  unfold sortD
  rw [if_pos (by rw [h1, h2, h3]; simp)]
  congr 1
  have e : (ps.mergeSort fun a b => decide (cI a ≤ cI b)).map natsD = (ps.map natsD).mergeSort (PySem.W.dataLe false id) := PySem.W.sort_maps natsD fun a _ b _ => (le_rows a b).symm
  rw [← e]
  congr 1
  have t1 : ∀ a b c : List Nat, decide (cI a ≤ cI b) = true → decide (cI b ≤ cI c) = true → decide (cI a ≤ cI c) = true := by
    intro a b c h1 h2
    exact decide_eq_true (List.le_trans (of_decide_eq_true h1) (of_decide_eq_true h2))
  have t2 : ∀ a b : List Nat, (decide (cI a ≤ cI b) || decide (cI b ≤ cI a)) = true := by
    intro a b
    rcases List.le_total (cI a) (cI b) with h | h <;> simp [h]
  have s1 := List.pairwise_mergeSort (le := fun a b : List Nat => decide (cI a ≤ cI b)) t1 t2 ps
  have s2 : (allRows w n).Pairwise fun a b => decide (cI a ≤ cI b) = true := (rows_sorted w n).imp fun {a b} h => decide_eq_true (List.le_of_lt h)
  have inj : ∀ a b : List Nat, cI a = cI b → a = b := fun a b h => by
    have : ∀ a b : List Nat, cI a = cI b → a = b := by
      intro a
      induction a with
      | nil => intro b h; cases b with
        | nil => rfl
        | cons y b => cases h
      | cons x a ih => intro b h; cases b with
        | nil => cases h
        | cons y b =>
          have h : (x : Int) :: cI a = (y : Int) :: cI b := h
          injection h with h1 h2
          rw [ih b h2, show x = y by omega]
    exact this a b h
  exact List.Perm.eq_of_pairwise (le := fun a b => decide (cI a ≤ cI b) = true) (fun a b _ _ h1 h2 => inj a b (List.le_antisymm (of_decide_eq_true h1) (of_decide_eq_true h2))) s1 s2 ((List.mergeSort_perm ps _).trans hp)
theorem perm_in {α : Type} : ∀ {l m : List α}, l.Nodup → (∀ x ∈ l, x ∈ m) → m.length ≤ l.length → l.Perm m
  | [], m, _, _, h => by
    have : m = [] := List.eq_nil_of_length_eq_zero (by simpa using h)
    rw [this]
  | a :: l, m, nd, h, hl => by
    obtain ⟨u, v, rfl⟩ := List.append_of_mem (h a List.mem_cons_self)
    have nd' := List.nodup_cons.mp nd
    have := perm_in (l := l) (m := u ++ v) nd'.2 (fun x hx => by
      have := h x (List.mem_cons_of_mem _ hx)
      simp only [List.mem_append, List.mem_cons] at this ⊢
      rcases this with q | q | q
      · exact .inl q
      · subst q; exact absurd hx nd'.1
      · exact .inr q) (by simp at hl ⊢; omega)
    exact (this.cons a).trans List.perm_middle.symm
/-- all rows, led: all rows -/
theorem led_perm {w : Nat} {sts : List (List Nat × List Nat)} (M : MOk w sts) {a : List Int} (ha : WOk sts.length a) (n : Nat) : ((allRows w n).map fun r => (led sts a r).1).Perm (allRows w n) := by
  refine perm_in ?_ ?_ (by simp)
  · rw [List.nodup_iff_pairwise_ne, List.pairwise_map]
    refine List.Pairwise.imp_of_mem (fun {r r'} hr hr' h e => ?_) (List.nodup_iff_pairwise_ne.mp (rows_nodup w n))
    have b1 := led_bk M ha (rows_mem.mp hr).2
    have b2 := led_bk M ha (rows_mem.mp hr').2
    rw [e] at b1
    rw [b1] at b2
    exact h (congrArg Prod.fst b2)
  · intro x hx
    obtain ⟨r, hr, rfl⟩ := List.mem_map.mp hx
    obtain ⟨h1, h2⟩ := rows_mem.mp hr
    obtain ⟨l1, _, l3, _⟩ := led_ok M ha h2
    exact rows_mem.mpr ⟨by rw [l3]; exact h1, l1⟩
/-! ### the law's turns -/
theorem seq_nx {Φ : Fns} {a b : T} {ρ ρ1 : Env} (h : ex Φ a ρ = .ok .nx ρ1) : ex Φ (.seq a b) ρ = ex Φ b ρ1 := by
  rw [ex_seq, h]
  simp
abbrev SSameB (n : Nat) (F : FnV) : Prop := ∀ xs, fit n (.list xs) = true → F [.bx xs, .fr (.list xs)] = .ok (.fr (.bool true)) [.fr (.list xs), .fr (.list xs)]
theorem take_w {Φ : Fns} (ht : STake (Φ "_law_take")) {n : Int} {b i : Nat} {s : Sl} {ρ : Env} {e : T} (h : ρ[i]? = some s) (he : ev Φ e ρ = .ok (.fr (.int n)) ρ) (hs : Tin s b) (h0 : 0 < n) (h1 : n < 1073741824) (hb : b < 1000000000) :
    ∃ (r : Nat) (s' : Sl), (r : Int) < n ∧ Tin s' (b + 1) ∧ ev Φ (.call "_law_take" (.cons (.var i) (.cons e .nil))) ρ = .ok (.fr (nD r)) (ρ.set i s') := by
  obtain ⟨r, s', r0, r1, hs', c⟩ := take_c ht h hs h0 h1 hb
  obtain ⟨k, rfl⟩ := Int.eq_ofNat_of_zero_le r0
  obtain ⟨ds, rfl⟩ := tin_bx hs
  refine ⟨k, s', r1, hs', ?_⟩
  simp [h, he, c]
/-- what is told of one row -/
structure RowF (Φ : Fns) (k : Nat) (Md A F R G Rk Rd Gk Gd BA AF SAF G2 P NR FR NF BO BN : D) : Prop where
  a1 : binD .add A F = some (.fr AF)
  a2 : binD .add NR FR = some (.fr NF)
  s1 : slD R none (some (k : Int)) = some (.fr Rk)
  s2 : slD R (some (k : Int)) none = some (.fr Rd)
  s3 : slD G none (some (k : Int)) = some (.fr Gk)
  s4 : slD G (some (k : Int)) none = some (.fr Gd)
  c1 : Φ "row_led" [.fr Md, .fr A, .fr R] = .ok (.fr G) [.fr Md, .fr A, .fr R]
  c2 : Φ "row_led" [.fr Md, .fr A, .fr Rk] = .ok (.fr Gk) [.fr Md, .fr A, .fr Rk]
  c3 : Φ "word_back" [.fr Md, .fr A] = .ok (.fr BA) [.fr Md, .fr A]
  c4 : Φ "row_led" [.fr Md, .fr BA, .fr G] = .ok (.fr R) [.fr Md, .fr BA, .fr G]
  c5 : Φ "row_led" [.fr Md, .fr AF, .fr R] = .ok (.fr G2) [.fr Md, .fr AF, .fr R]
  c6 : Φ "shortened" [.fr Md, .fr AF] = .ok (.fr SAF) [.fr Md, .fr AF]
  c7 : Φ "row_led" [.fr Md, .fr SAF, .fr R] = .ok (.fr G2) [.fr Md, .fr SAF, .fr R]
  c8 : Φ "row_led" [.fr Md, .fr F, .fr G] = .ok (.fr G2) [.fr Md, .fr F, .fr G]
  c9 : Φ "part_at" [.fr Md, .fr A, .fr Rk] = .ok (.fr P) [.fr Md, .fr A, .fr Rk]
  c10 : Φ "row_led" [.fr Md, .fr P, .fr Rd] = .ok (.fr Gd) [.fr Md, .fr P, .fr Rd]
  c11 : Φ "part_at" [.fr Md, .fr P, .fr Rd] = .ok (.fr NR) [.fr Md, .fr P, .fr Rd]
  c12 : Φ "part_at" [.fr Md, .fr A, .fr R] = .ok (.fr NR) [.fr Md, .fr A, .fr R]
  c13 : Φ "part_at" [.fr Md, .fr F, .fr G] = .ok (.fr FR) [.fr Md, .fr F, .fr G]
  c14 : Φ "part_at" [.fr Md, .fr AF, .fr R] = .ok (.fr BO) [.fr Md, .fr AF, .fr R]
  c15 : Φ "_law_back" [.fr A] = .ok (.fr BA) [.fr A]
  c16 : Φ "part_at" [.fr Md, .fr BA, .fr G] = .ok (.fr BN) [.fr Md, .fr BA, .fr G]
  c17 : Φ "joined" [.fr Md, .fr A, .fr F] = .ok (.fr SAF) [.fr Md, .fr A, .fr F]
  c18 : Φ "part_at" [.fr Md, .fr SAF, .fr R] = .ok (.fr BO) [.fr Md, .fr SAF, .fr R]
  c19 : Φ "_law_short" [.fr NF] = .ok (.fr BO) [.fr NF]
  c20 : Φ "_law_back" [.fr NR] = .ok (.fr BN) [.fr NR]
  e1 : Φ "_law_same" [.bx [Gk, R, G2, G2], .fr (.list [Gk, R, G2, G2])] = .ok (.fr (.bool true)) [.fr (.list [Gk, R, G2, G2]), .fr (.list [Gk, R, G2, G2])]
  e2 : Φ "_law_same" [.fr (.list [Gd, NR]), .fr (.list [Gd, NR])] = .ok (.fr (.bool true)) [.fr (.list [Gd, NR]), .fr (.list [Gd, NR])]
  e3 : Φ "_law_same" [.bx [BO, BN, BO], .fr (.list [BO, BN, BO])] = .ok (.fr (.bool true)) [.fr (.list [BO, BN, BO]), .fr (.list [BO, BN, BO])]
theorem row_rest {Φ : Fns} {k n : Nat} {Md A F R G Rk Rd Gk Gd BA AF SAF G2 P NR FR NF BO BN RS : D} {x0 s1 x2 x8 x12 x13 x14 x15 x16 x17 : Sl} (f : RowF Φ k Md A F R G Rk Rd Gk Gd BA AF SAF G2 P NR FR NF BO BN) :
    ∃ y12 y13 y14 y15 y16, ex Φ (.seq s_b_law_4_1 (.seq s_b_law_4_2 (.seq s_b_law_4_3 (.seq s_b_law_4_4 (.seq s_b_law_4_5 (.seq s_b_law_4_6 (.seq s_b_law_4_7 (.seq s_b_law_4_8 (.seq s_b_law_4_9 .skip))))))))) [x0, s1, x2, .fr Md, .fr (nD n), .fr A, .fr F, .fr RS, x8, .fr R, .fr G, .fr (nD k), x12, x13, x14, x15, x16, x17] =
      .ok .nx [x0, s1, x2, .fr Md, .fr (nD n), .fr A, .fr F, .fr RS, x8, .fr R, .fr G, .fr (nD k), y12, y13, y14, y15, y16, x17] := by
  obtain ⟨a1, a2, s1', s2, s3, s4, c1, c2, c3, c4, c5, c6, c7, c8, c9, c10, c11, c12, c13, c14, c15, c16, c17, c18, c19, c20, e1, e2, e3⟩ := f
  have l1 : binD .add (.list [Gk, R]) (.list [G2, G2]) = some (.ow [Gk, R, G2, G2]) := by rw [add_lst (by simp [LIM])]; rfl
  have q1 : ex Φ s_b_law_4_1 [x0, s1, x2, .fr Md, .fr (nD n), .fr A, .fr F, .fr RS, x8, .fr R, .fr G, .fr (nD k), x12, x13, x14, x15, x16, x17] = .ok .nx [x0, s1, x2, .fr Md, .fr (nD n), .fr A, .fr F, .fr RS, x8, .fr R, .fr G, .fr (nD k), .bx [Gk, R], x13, x14, x15, x16, x17] := by
    simp [s_b_law_4_1, s1', c2, c3, c4]
  have q2 : ex Φ s_b_law_4_2 [x0, s1, x2, .fr Md, .fr (nD n), .fr A, .fr F, .fr RS, x8, .fr R, .fr G, .fr (nD k), .bx [Gk, R], x13, x14, x15, x16, x17] = .ok .nx [x0, s1, x2, .fr Md, .fr (nD n), .fr A, .fr F, .fr RS, x8, .fr R, .fr G, .fr (nD k), .bx [Gk, R, G2, G2], x13, x14, x15, x16, x17] := by
    simp [s_b_law_4_2, a1, c5, c6, c7, l1]
  have q3 : ex Φ s_b_law_4_3 [x0, s1, x2, .fr Md, .fr (nD n), .fr A, .fr F, .fr RS, x8, .fr R, .fr G, .fr (nD k), .bx [Gk, R, G2, G2], x13, x14, x15, x16, x17] = .ok .nx [x0, s1, x2, .fr Md, .fr (nD n), .fr A, .fr F, .fr RS, x8, .fr R, .fr G, .fr (nD k), .bx [Gk, R, G2, G2], .fr G2, x14, x15, x16, x17] := by
    simp [s_b_law_4_3, c8]
  have b1 := callV_bf (F := Φ "_law_same") (i := 12) (ρ := [x0, s1, x2, .fr Md, .fr (nD n), .fr A, .fr F, .fr RS, x8, .fr R, .fr G, .fr (nD k), .bx [Gk, R, G2, G2], .fr G2, x14, x15, x16, x17]) (a := .list [Gk, R, G2, G2]) (s := .bx [Gk, R, G2, G2]) rfl
  rw [e1] at b1
  have q4 : ex Φ s_b_law_4_4 [x0, s1, x2, .fr Md, .fr (nD n), .fr A, .fr F, .fr RS, x8, .fr R, .fr G, .fr (nD k), .bx [Gk, R, G2, G2], .fr G2, x14, x15, x16, x17] = .ok .nx [x0, s1, x2, .fr Md, .fr (nD n), .fr A, .fr F, .fr RS, x8, .fr R, .fr G, .fr (nD k), .fr (.list [Gk, R, G2, G2]), .fr G2, x14, x15, x16, x17] := by
    simp [s_b_law_4_4, s3, b1]
  have q5 : ex Φ s_b_law_4_5 [x0, s1, x2, .fr Md, .fr (nD n), .fr A, .fr F, .fr RS, x8, .fr R, .fr G, .fr (nD k), .fr (.list [Gk, R, G2, G2]), .fr G2, x14, x15, x16, x17] = .ok .nx [x0, s1, x2, .fr Md, .fr (nD n), .fr A, .fr F, .fr RS, x8, .fr R, .fr G, .fr (nD k), .fr (.list [Gk, R, G2, G2]), .fr G2, .fr P, x15, x16, x17] := by
    simp [s_b_law_4_5, s1', c9]
  have q6 : ex Φ s_b_law_4_6 [x0, s1, x2, .fr Md, .fr (nD n), .fr A, .fr F, .fr RS, x8, .fr R, .fr G, .fr (nD k), .fr (.list [Gk, R, G2, G2]), .fr G2, .fr P, x15, x16, x17] = .ok .nx [x0, s1, x2, .fr Md, .fr (nD n), .fr A, .fr F, .fr RS, x8, .fr R, .fr G, .fr (nD k), .fr (.list [Gk, R, G2, G2]), .fr G2, .fr P, x15, x16, x17] := by
    simp [s_b_law_4_6, s2, s4, c10, c11, c12, e2]
  have q7 : ex Φ s_b_law_4_7 [x0, s1, x2, .fr Md, .fr (nD n), .fr A, .fr F, .fr RS, x8, .fr R, .fr G, .fr (nD k), .fr (.list [Gk, R, G2, G2]), .fr G2, .fr P, x15, x16, x17] = .ok .nx [x0, s1, x2, .fr Md, .fr (nD n), .fr A, .fr F, .fr RS, x8, .fr R, .fr G, .fr (nD k), .fr (.list [Gk, R, G2, G2]), .fr G2, .fr P, .fr NR, .fr FR, x17] := by
    simp [s_b_law_4_7, c12, c13]
  have q8 : ex Φ s_b_law_4_8 [x0, s1, x2, .fr Md, .fr (nD n), .fr A, .fr F, .fr RS, x8, .fr R, .fr G, .fr (nD k), .fr (.list [Gk, R, G2, G2]), .fr G2, .fr P, .fr NR, .fr FR, x17] = .ok .nx [x0, s1, x2, .fr Md, .fr (nD n), .fr A, .fr F, .fr RS, x8, .fr R, .fr G, .fr (nD k), .bx [BO, BN, BO], .fr G2, .fr P, .fr NR, .fr FR, x17] := by
    simp [s_b_law_4_8, a1, c14, c15, c16, c17, c18]
  have b2 := callV_bf (F := Φ "_law_same") (i := 12) (ρ := [x0, s1, x2, .fr Md, .fr (nD n), .fr A, .fr F, .fr RS, x8, .fr R, .fr G, .fr (nD k), .bx [BO, BN, BO], .fr G2, .fr P, .fr NR, .fr FR, x17]) (a := .list [BO, BN, BO]) (s := .bx [BO, BN, BO]) rfl
  rw [e3] at b2
  have q9 : ex Φ s_b_law_4_9 [x0, s1, x2, .fr Md, .fr (nD n), .fr A, .fr F, .fr RS, x8, .fr R, .fr G, .fr (nD k), .bx [BO, BN, BO], .fr G2, .fr P, .fr NR, .fr FR, x17] = .ok .nx [x0, s1, x2, .fr Md, .fr (nD n), .fr A, .fr F, .fr RS, x8, .fr R, .fr G, .fr (nD k), .fr (.list [BO, BN, BO]), .fr G2, .fr P, .fr NR, .fr FR, x17] := by
    simp [s_b_law_4_9, a2, c19, c20, b2]
  refine ⟨.fr (.list [BO, BN, BO]), .fr G2, .fr P, .fr NR, .fr FR, ?_⟩
  rw [seq_nx q1, seq_nx q2, seq_nx q3, seq_nx q4, seq_nx q5, seq_nx q6, seq_nx q7, seq_nx q8, seq_nx q9]
  exact ex_skip
theorem nats_take {r : List Nat} {k : Nat} : slD (natsD r) none (some (k : Int)) = some (.fr (natsD (r.take k))) := by
  unfold natsD
  rw [sl_tup, cut_take, List.map_take]
theorem nats_drop {r : List Nat} {k : Nat} : slD (natsD r) (some (k : Int)) none = some (.fr (natsD (r.drop k))) := by
  unfold natsD
  rw [sl_tup, cut_drop, List.map_drop]
structure LawPhi (Φ : Fns) : Prop where
  rowLed : SRowLed (Φ "row_led")
  partAt : SPartAt (Φ "part_at")
  wordBack : SWordBack (Φ "word_back")
  shortened : SShortened (Φ "shortened")
  joined : SJoined (Φ "joined")
  short : SShort (Φ "_law_short")
  back : SBack (Φ "_law_back")
  same : SSame 4 (Φ "_law_same")
  sameB : SSameB 4 (Φ "_law_same")
  take : STake (Φ "_law_take")
  pick : SPick (Φ "_law_pick")
  some : SSome (Φ "_law_some")
  word : SWord (Φ "_law_word")
  rows : SRows (Φ "_law_rows")
  lled : SLawLed (Φ "_law_led")
  box : SBox (Φ "_law_box")
  cells : SCells 1 (Φ "_law_cells")
theorem fit_l {n : Nat} {xs : List D} (hl : xs.length ≤ 100000) (h : ∀ x ∈ xs, fit n x = true) : fit (n + 1) (.list xs) = true := by
  show (decide (xs.length ≤ 100000) && xs.all (fit n)) = true
  rw [decide_eq_true hl, List.all_eq_true.mpr h]
  rfl
theorem ROk.take {w : Nat} {r : List Nat} (h : ROk w r) (k : Nat) : ROk w (r.take k) := fun x hx => h x (List.mem_of_mem_take hx)
theorem ROk.drop {w : Nat} {r : List Nat} (h : ROk w r) (k : Nat) : ROk w (r.drop k) := fun x hx => h x (List.mem_of_mem_drop hx)
theorem row_facts {Φ : Fns} (h : LawPhi Φ) {w : Nat} {sts : List (List Nat × List Nat)} (M : MOk w sts) {a f : List Int} (ha : WOk sts.length a) (hal : a.length ≤ 10) (hf : WOk sts.length f) (hfl : f.length ≤ 10) {r : List Nat} (hr : ROk w r) (hrl : r.length ≤ 10) {k : Nat} (hk : k ≤ r.length) :
    RowF Φ k (mD w sts) (zD a) (zD f) (natsD r) (natsD (led sts a r).1) (natsD (r.take k)) (natsD (r.drop k)) (natsD ((led sts a r).1.take k)) (natsD ((led sts a r).1.drop k)) (zD (bk a)) (zD (a ++ f)) (zD (sh (a ++ f))) (natsD (led sts f (led sts a r).1).1)
      (zD (sh (led sts a (r.take k)).2)) (zD (sh (led sts a r).2)) (zD (sh (led sts f (led sts a r).1).2)) (zD (sh (led sts a r).2 ++ sh (led sts f (led sts a r).1).2)) (zD (sh (sh (led sts a r).2 ++ sh (led sts f (led sts a r).1).2))) (zD (bk (sh (led sts a r).2))) := by
  obtain ⟨g1, g2, g3, g4⟩ := led_ok M ha hr
  obtain ⟨f1, f2, f3, f4⟩ := led_ok M hf g1
  obtain ⟨t1, t2, t3, t4⟩ := led_ok M ha (hr.take k)
  have haf : WOk sts.length (a ++ f) := ha.app hf
  have bl : (bk a).length = a.length := by simp [bk]
  have s1 := sh_len (led sts a r).2
  have s2 := sh_len (led sts f (led sts a r).1).2
  have s3 := sh_len (led sts a (r.take k)).2
  have s4 := sh_len (a ++ f)
  have lt : (r.take k).length ≤ r.length := by rw [List.length_take]; omega
  have ld : (r.drop k).length ≤ r.length := by rw [List.length_drop]; omega
  rw [List.length_append] at s4
  have cut := led_cut (sts := sts) (r.take k) (r.drop k) a
  rw [List.take_append_drop] at cut
  have e1 : (led sts a r).1 = (led sts a (r.take k)).1 ++ (led sts (led sts a (r.take k)).2 (r.drop k)).1 := congrArg Prod.fst cut
  have hl : (led sts a (r.take k)).1.length = k := by rw [t3, List.length_take]; omega
  have tk : (led sts a (r.take k)).1 = (led sts a r).1.take k := by rw [e1, List.take_left' hl]
  have app := led_app (sts := sts) r a f
  obtain ⟨d1, d2⟩ := led_sim M (r := r) (a := sh (a ++ f)) (b := a ++ f) haf.sh haf hr (stk_sh _)
  rw [app] at d1 d2
  have bb := led_bk M ha hr
  have pd : (led sts (led sts a (r.take k)).2 (r.drop k)).1 = (led sts a r).1.drop k := by rw [e1, List.drop_left' hl]
  have pp : (led sts (led sts a (r.take k)).2 (r.drop k)).2 = (led sts a r).2 := by rw [cut]
  obtain ⟨p1, p2⟩ := led_sim M (r := r.drop k) (a := sh (led sts a (r.take k)).2) (b := (led sts a (r.take k)).2) t2.sh t2 (hr.drop k) (stk_sh _)
  rw [pd] at p1
  rw [pp] at p2
  have fz2 : ∀ l : List Int, l.length ≤ 100000 → fit 2 (zD l) = true := fun l h => fit_z h
  have fn2 : ∀ l : List Nat, l.length ≤ 100000 → fit 2 (natsD l) = true := fun l h => fit_nats h
  have both : sh ((led sts a r).2 ++ (led sts f (led sts a r).1).2) = sh (sh (led sts a r).2 ++ sh (led sts f (led sts a r).1).2) := sh_app_eq (stk_sh _).symm (stk_sh _).symm
  have nl : (sh (led sts a r).2 ++ sh (led sts f (led sts a r).1).2).length ≤ 20 := by rw [List.length_append]; omega
  have hsame : ∀ xs : List D, xs.length ≤ 100000 → (∀ x ∈ xs, fit 2 x = true) → fit 4 (.list xs) = true := fun xs hl hx => fit_mono (fit_l hl hx)
  refine ⟨z_app (by omega), z_app (by omega), nats_take, nats_drop, nats_take, nats_drop, ?_, ?_, ?_, ?_, ?_, ?_, ?_, ?_, ?_, ?_, ?_, ?_, ?_, ?_, ?_, ?_, ?_, ?_, ?_, ?_, ?_, ?_, ?_⟩
  · exact h.rowLed w sts a r M ha (by omega) hr (by omega)
  · rw [← tk]; exact h.rowLed w sts a _ M ha (by omega) (hr.take k) (by omega)
  · exact h.wordBack w sts a M ha (by omega)
  · have := h.rowLed w sts (bk a) (led sts a r).1 M ha.bk (by omega) g1 (by omega)
    rw [bb] at this
    exact this
  · have := h.rowLed w sts (a ++ f) r M haf (by rw [List.length_append]; omega) hr (by omega)
    rw [app] at this
    exact this
  · exact h.shortened w sts (a ++ f) M haf (by rw [List.length_append]; omega)
  · have := h.rowLed w sts (sh (a ++ f)) r M haf.sh (by omega) hr (by omega)
    rw [d1] at this
    exact this
  · exact h.rowLed w sts f _ M hf (by omega) g1 (by omega)
  · exact h.partAt w sts a _ M ha (by omega) (hr.take k) (by omega)
  · have := h.rowLed w sts (sh (led sts a (r.take k)).2) (r.drop k) M t2.sh (by omega) (hr.drop k) (by omega)
    rw [p1] at this
    exact this
  · have := h.partAt w sts (sh (led sts a (r.take k)).2) (r.drop k) M t2.sh (by omega) (hr.drop k) (by omega)
    rw [sh_of_stk p2] at this
    exact this
  · exact h.partAt w sts a r M ha (by omega) hr (by omega)
  · exact h.partAt w sts f _ M hf (by omega) g1 (by omega)
  · have := h.partAt w sts (a ++ f) r M haf (by rw [List.length_append]; omega) hr (by omega)
    rw [app] at this
    dsimp only at this
    rw [both] at this
    exact this
  · exact h.back a (by omega)
  · have := h.partAt w sts (bk a) (led sts a r).1 M ha.bk (by omega) g1 (by omega)
    rw [bb] at this
    dsimp only at this
    rw [sh_bk] at this
    exact this
  · exact h.joined w sts a f M ha (by omega) hf (by omega)
  · have := h.partAt w sts (sh (a ++ f)) r M haf.sh (by omega) hr (by omega)
    rw [sh_of_stk d2] at this
    dsimp only at this
    rw [both] at this
    exact this
  · exact (h.short _ (by omega)).1
  · exact h.back _ (by omega)
  · refine h.sameB _ (hsame _ (by simp) fun x hx => ?_)
    simp only [List.mem_cons, List.mem_nil_iff, or_false] at hx
    rcases hx with rfl | rfl | rfl | rfl
    · exact fn2 _ (by rw [List.length_take]; omega)
    · exact fn2 _ (by omega)
    · exact fn2 _ (by omega)
    · exact fn2 _ (by omega)
  · refine h.same _ (hsame _ (by simp) fun x hx => ?_)
    simp only [List.mem_cons, List.mem_nil_iff, or_false] at hx
    rcases hx with rfl | rfl
    · exact fn2 _ (by rw [List.length_drop]; omega)
    · exact fz2 _ (by omega)
  · have b1 := sh_len (sh (led sts a r).2 ++ sh (led sts f (led sts a r).1).2)
    refine h.sameB _ (hsame _ (by simp) fun x hx => ?_)
    simp only [List.mem_cons, List.mem_nil_iff, or_false] at hx
    rcases hx with rfl | rfl | rfl
    · exact fz2 _ (by omega)
    · exact fz2 _ (by simp [bk]; omega)
    · exact fz2 _ (by omega)
/-- one row's turn -/
theorem row_turn {Φ : Fns} (h : LawPhi Φ) {w n b : Nat} {sts : List (List Nat × List Nat)} (M : MOk w sts) {a f : List Int} (ha : WOk sts.length a) (hal : a.length ≤ 10) (hf : WOk sts.length f) (hfl : f.length ≤ 10) {r : List Nat} (hr : ROk w r) (hrn : r.length = n) (hn : n ≤ 10)
    {x0 s x2 x8 x10 x11 x12 x13 x14 x15 x16 x17 : Sl} {RS : D} (hs : Tin s b) (hb : b < 1000000) :
    ∃ s' y10 y11 y12 y13 y14 y15 y16, Tin s' (b + 1) ∧ ex Φ b_law_4 [x0, s, x2, .fr (mD w sts), .fr (nD n), .fr (zD a), .fr (zD f), .fr RS, x8, .fr (natsD r), x10, x11, x12, x13, x14, x15, x16, x17] =
      .ok .nx [x0, s', x2, .fr (mD w sts), .fr (nD n), .fr (zD a), .fr (zD f), .fr RS, x8, .fr (natsD r), y10, y11, y12, y13, y14, y15, y16, x17] := by
  obtain ⟨k, s1, hk, hs1, e1⟩ := take_w h.take (i := 1) (n := (n : Int) + 1) (e := .bin .add (.var 4) (.lit (.int 1))) (ρ := [x0, s, x2, .fr (mD w sts), .fr (nD n), .fr (zD a), .fr (zD f), .fr RS, x8, .fr (natsD r), x10, x11, x12, x13, x14, x15, x16, x17]) rfl (by simp) hs (by omega) (by omega) (by omega)
  have F := row_facts h M ha hal hf hfl hr (by omega) (k := k) (by omega)
  have c1 := F.c1
  simp only [List.set_cons_succ, List.set_cons_zero] at e1
  have q0 : ex Φ s_b_law_4_0 [x0, s, x2, .fr (mD w sts), .fr (nD n), .fr (zD a), .fr (zD f), .fr RS, x8, .fr (natsD r), x10, x11, x12, x13, x14, x15, x16, x17] = .ok .nx [x0, s1, x2, .fr (mD w sts), .fr (nD n), .fr (zD a), .fr (zD f), .fr RS, x8, .fr (natsD r), .fr (natsD (led sts a r).1), .fr (nD k), x12, x13, x14, x15, x16, x17] := by
    clear F
    have rl : ev Φ (.call "row_led" (.cons (.var 3) (.cons (.var 5) (.cons (.var 9) .nil)))) [x0, s, x2, .fr (mD w sts), .fr (nD n), .fr (zD a), .fr (zD f), .fr RS, x8, .fr (natsD r), x10, x11, x12, x13, x14, x15, x16, x17] = .ok (.fr (natsD (led sts a r).1)) [x0, s, x2, .fr (mD w sts), .fr (nD n), .fr (zD a), .fr (zD f), .fr RS, x8, .fr (natsD r), x10, x11, x12, x13, x14, x15, x16, x17] := by
      generalize natsD (led sts a r).1 = G at *
      generalize mD w sts = Md at *
      generalize zD a = A at *
      generalize natsD r = R at *
      simp [c1]
    unfold s_b_law_4_0
    rw [ex_par, rl]
    simp only [Out.bind_ok, unbx_fr]
    rw [e1]
    simp
  obtain ⟨y12, y13, y14, y15, y16, q⟩ := row_rest (n := n) (RS := RS) (x0 := x0) (s1 := s1) (x2 := x2) (x8 := x8) (x12 := x12) (x13 := x13) (x14 := x14) (x15 := x15) (x16 := x16) (x17 := x17) F
  refine ⟨s1, .fr (natsD (led sts a r).1), .fr (nD k), y12, y13, y14, y15, y16, hs1, ?_⟩
  unfold b_law_4
  rw [seq_nx q0]
  exact q
theorem cloop_mapG {β : Type} {own : List Nat} {tg : Tg} {c : Env → Out Bool} {e : Env → Out D} {g f : β → D} {ρ : Env} (hw : wipeE ρ own = ρ) : ∀ {ks : List β} {acc : List D}, (∀ k ∈ ks, ∃ ρa, asg tg (g k) ρ = some ρa ∧ c ρa = .ok true ρa ∧ ∃ ρb, e ρa = .ok (f k) ρb ∧ wipeE ρb own = ρ) → acc.length + ks.length ≤ LIM →
    cloop own tg c e (ks.map g) acc ρ = .ok (acc ++ ks.map f) ρ
  | [], acc, _, _ => by simp [cloop]
  | k :: ks, acc, h, hl => by
    obtain ⟨ρa, h1, h2, ρb, h3, h4⟩ := h k List.mem_cons_self
    rw [List.map_cons]
    unfold cloop
    rw [hw, h1]
    simp only [Out.ofO_some, Out.bind_ok]
    rw [h2]
    simp only [Out.bind_ok, if_true]
    rw [h3]
    simp only [Out.bind_ok]
    rw [if_pos (by simp at hl; omega), h4, cloop_mapG hw (fun x hx => h x (List.mem_cons_of_mem _ hx)) (by simp at hl ⊢; omega)]
    simp
theorem ev_comp_mapG {β : Type} {Φ : Fns} {tg : Tg} {own : List Nat} {it c e : T} {ρ ρ1 ρw : Env} {g f : β → D} {ks : List β} (hi : evi Φ it ρ = .ok (ks.map g) ρ1) (hw1 : wipeE ρ1 own = ρw) (hw : wipeE ρw own = ρw) (hb : backE ρ1 ρw own = ρ1) (hl : ks.length ≤ LIM)
    (h : ∀ k ∈ ks, ∃ ρa, asg tg (g k) ρw = some ρa ∧ evc Φ c ρa = .ok true ρa ∧ ∃ ρc, ((ev Φ e ρa).bind fun v r1 => v.fz r1) = .ok (f k) ρc ∧ wipeE ρc own = ρw) : ev Φ (.comp tg own it c e) ρ = .ok (.ow (ks.map f)) ρ1 := by
  rw [ev_comp, hi]
  simp only [Out.bind_ok]
  rw [hw1, cloop_mapG (f := f) hw h (by simpa using hl)]
  show Out.ok (Vl.ow ([] ++ ks.map f)) (backE ρ1 ρw own) = _
  rw [hb]
  rfl
theorem word_v {Φ : Fns} (ht : STake (Φ "_law_take")) (hw : SWord (Φ "_law_word")) {w b : Nat} {sts : List (List Nat × List Nat)} (M : MOk w sts) {s : Sl} {ρ : Env} (h1 : ρ[1]? = some s) (h3 : ρ[3]? = some (.fr (mD w sts))) (hs : Tin s b) (hb : b < 1000000) :
    ∃ (ws : List Int) (s' : Sl), WOk sts.length ws ∧ ws.length ≤ 6 ∧ Tin s' (b + 20) ∧ ev Φ (.call "_law_word" (.cons (.var 1) (.cons (.var 3) (.cons (.call "_law_take" (.cons (.var 1) (.cons (.lit (.int 7)) .nil))) .nil)))) ρ = .ok (.fr (zD ws)) (ρ.set 1 s') := by
  obtain ⟨r, s1, hr, hs1, e1⟩ := take_w ht (i := 1) (n := 7) (e := .lit (.int 7)) h1 (by simp) hs (by decide) (by decide) (by omega)
  obtain ⟨ws, s2, q1, q2, _, q3, e2⟩ := hw (b + 1) s1 w sts r hs1 M (by omega) (by omega)
  obtain ⟨d0, rfl⟩ := tin_bx hs
  obtain ⟨d1, rfl⟩ := tin_bx hs1
  have hl : 1 < ρ.length := by
    rcases Nat.lt_or_ge 1 ρ.length with z | z
    · exact z
    · rw [List.getElem?_eq_none z] at h1; cases h1
  have g1 : (ρ.set 1 (.bx d1))[1]? = some (.bx d1) := List.getElem?_set_self hl
  refine ⟨ws, s2, q1, by omega, tin_mono q3 (by omega), ?_⟩
  have c := callV_bff (F := Φ "_law_word") (i := 1) (ρ := ρ.set 1 (.bx d1)) (a := mD w sts) (b := nD r) g1
  rw [e2] at c
  have ss : (ρ.set 1 (.bx d1)).set 1 s2 = ρ.set 1 s2 := List.set_set ..
  rw [callO_fr, putSl_bx, putSl_fr, putSl_fr, ss] at c
  simp only [putSl_nil] at c
  rw [ev_call, evs_cons, ev_var, h1]
  simp only [evVar_bx, Out.bind_ok]
  rw [evs_cons, ev_var, h3]
  simp only [evVar_fr, Out.bind_ok]
  rw [evs_cons, e1]
  simp only [Out.bind_ok, evs_nil, lay_fr, lay_bx]
  exact c
theorem lap_turn {Φ : Fns} (h : LawPhi Φ) {b : Nat} {x0 s x2 x3 x4 x5 x6 x7 x8 x9 x10 x11 x12 x13 x14 x15 x16 x17 : Sl} (hs : Tin s b) (hb : b < 500000) :
    ∃ s' y3 y4 y5 y6 y7 y8 y9 y10 y11 y12 y13 y14 y15 y16 y17, Tin s' (b + 1000) ∧ ex Φ b_law_6 [x0, s, x2, x3, x4, x5, x6, x7, x8, x9, x10, x11, x12, x13, x14, x15, x16, x17] =
      .ok .nx [x0, s', x2, y3, y4, y5, y6, y7, y8, y9, y10, y11, y12, y13, y14, y15, y16, y17] := by
  obtain ⟨d0, rfl⟩ := tin_bx hs
  -- the machine
  obtain ⟨w, sts, s1, M, w3, m6, hs1, e0⟩ := h.some b _ hs (by omega)
  have c0 := callV_b1 (F := Φ "_law_some") (i := 1) (ρ := [x0, .bx d0, x2, x3, x4, x5, x6, x7, x8, x9, x10, x11, x12, x13, x14, x15, x16, x17]) (s := .bx d0) rfl
  rw [e0] at c0
  obtain ⟨d1, rfl⟩ := tin_bx hs1
  have q0 : ex Φ s_b_law_6_0 [x0, .bx d0, x2, x3, x4, x5, x6, x7, x8, x9, x10, x11, x12, x13, x14, x15, x16, x17] = .ok .nx [x0, .bx d1, x2, .fr (mD w sts), x4, x5, x6, x7, x8, x9, x10, x11, x12, x13, x14, x15, x16, x17] := by
    generalize mD w sts = Md at *
    simp [s_b_law_6_0, c0]
  -- the length
  obtain ⟨r, s2, hr, hs2, e1⟩ := take_w h.take (i := 1) (n := 4) (e := .lit (.int 4)) (ρ := [x0, .bx d1, x2, .fr (mD w sts), x4, x5, x6, x7, x8, x9, x10, x11, x12, x13, x14, x15, x16, x17]) rfl (by simp) hs1 (by decide) (by decide) (by omega)
  obtain ⟨d2, rfl⟩ := tin_bx hs2
  simp only [List.set_cons_succ, List.set_cons_zero] at e1
  obtain ⟨n, hn⟩ : ∃ n, n = r + 1 := ⟨_, rfl⟩
  have en : (1 : Int) + (r : Int) = (n : Int) := by omega
  have q1 : ex Φ s_b_law_6_1 [x0, .bx d1, x2, .fr (mD w sts), x4, x5, x6, x7, x8, x9, x10, x11, x12, x13, x14, x15, x16, x17] = .ok .nx [x0, .bx d2, x2, .fr (mD w sts), .fr (nD n), x5, x6, x7, x8, x9, x10, x11, x12, x13, x14, x15, x16, x17] := by
    generalize mD w sts = Md at *
    unfold s_b_law_6_1
    rw [ex_set, ev_bin, ev_lit, Out.bind_ok, e1]
    simp [en]
  -- the words
  obtain ⟨a, s3, ha, hal, hs3, e2⟩ := word_v h.take h.word M (ρ := [x0, .bx d2, x2, .fr (mD w sts), .fr (nD n), x5, x6, x7, x8, x9, x10, x11, x12, x13, x14, x15, x16, x17]) rfl rfl hs2 (by omega)
  simp only [List.set_cons_succ, List.set_cons_zero] at e2
  obtain ⟨f, s4, hf, hfl, hs4, e3⟩ := word_v h.take h.word M (ρ := [x0, s3, x2, .fr (mD w sts), .fr (nD n), x5, x6, x7, x8, x9, x10, x11, x12, x13, x14, x15, x16, x17]) rfl rfl hs3 (by omega)
  simp only [List.set_cons_succ, List.set_cons_zero] at e3
  obtain ⟨d4, rfl⟩ := tin_bx hs4
  have q2 : ex Φ s_b_law_6_2 [x0, .bx d2, x2, .fr (mD w sts), .fr (nD n), x5, x6, x7, x8, x9, x10, x11, x12, x13, x14, x15, x16, x17] = .ok .nx [x0, .bx d4, x2, .fr (mD w sts), .fr (nD n), .fr (zD a), .fr (zD f), x7, x8, x9, x10, x11, x12, x13, x14, x15, x16, x17] := by
    generalize mD w sts = Md at *
    unfold s_b_law_6_2
    rw [ex_setT, ev_tup, evs_cons, e2]
    simp only [Out.bind_ok]
    rw [evs_cons, e3]
    simp
  -- all rows
  have e4 := h.rows w n (by omega) (by omega)
  have ix := ix_m0 (w := w) (sts := sts)
  have q3 : ex Φ s_b_law_6_3 [x0, .bx d4, x2, .fr (mD w sts), .fr (nD n), .fr (zD a), .fr (zD f), x7, x8, x9, x10, x11, x12, x13, x14, x15, x16, x17] = .ok .nx [x0, .bx d4, x2, .fr (mD w sts), .fr (nD n), .fr (zD a), .fr (zD f), .bx ((allRows w n).map natsD), x8, x9, x10, x11, x12, x13, x14, x15, x16, x17] := by
    generalize (allRows w n).map natsD = RS at *
    generalize mD w sts = Md at *
    simp [s_b_law_6_3, ix, e4]
  have lw := rows_len w n
  have p5 := pow5 (w := w) (n := n) (by omega) (by omega)
  have rmem : ∀ r ∈ allRows w n, r.length = n ∧ ROk w r := fun r hr => rows_mem.mp hr
  have told : (allRows w n).map (fun r => natsD (led sts a r).1) = ((allRows w n).map fun r => (led sts a r).1).map natsD := by rw [List.map_map]; rfl
  have told2 : (allRows w n).map (fun r => natsD (lawLed sts a r)) = ((allRows w n).map fun r => (led sts a r).1).map natsD := by
    rw [List.map_map]
    exact List.map_congr_left fun r _ => by rw [lawLed_eq]; rfl
  obtain ⟨TD, hTD⟩ : ∃ TD, TD = ((allRows w n).map fun r => (led sts a r).1).map natsD := ⟨_, rfl⟩
  have hlim : (allRows w n).length ≤ LIM := lim_le (by omega)
  have q4 : ex Φ s_b_law_6_4 [x0, .bx d4, x2, .fr (mD w sts), .fr (nD n), .fr (zD a), .fr (zD f), .bx ((allRows w n).map natsD), x8, x9, x10, x11, x12, x13, x14, x15, x16, x17] = .ok .nx [x0, .bx d4, x2, .fr (mD w sts), .fr (nD n), .fr (zD a), .fr (zD f), .fr (.list ((allRows w n).map natsD)), .bx TD, x9, x10, x11, x12, x13, x14, x15, x16, x17] := by
    have cc : ev Φ c_law_1 [x0, .bx d4, x2, .fr (mD w sts), .fr (nD n), .fr (zD a), .fr (zD f), .bx ((allRows w n).map natsD), x8, x9, x10, x11, x12, x13, x14, x15, x16, x17] = .ok (.ow ((allRows w n).map fun r => natsD (led sts a r).1)) [x0, .bx d4, x2, .fr (mD w sts), .fr (nD n), .fr (zD a), .fr (zD f), .fr (.list ((allRows w n).map natsD)), x8, x9, x10, x11, x12, x13, x14, x15, x16, x17] := by
      refine ev_comp_mapG (g := natsD) (ρ1 := [x0, .bx d4, x2, .fr (mD w sts), .fr (nD n), .fr (zD a), .fr (zD f), .fr (.list ((allRows w n).map natsD)), x8, x9, x10, x11, x12, x13, x14, x15, x16, x17]) (ρw := [x0, .bx d4, x2, .fr (mD w sts), .fr (nD n), .fr (zD a), .fr (zD f), .fr (.list ((allRows w n).map natsD)), x8, x9, x10, x11, x12, x13, x14, x15, x16, .no]) (by simp) (by simp [wipeE]) (by simp [wipeE]) (by simp [backE]) hlim fun r hr => ?_
      have k := h.rowLed w sts a r M ha (by omega) (rmem r hr).2 (by have := (rmem r hr).1; omega)
      refine ⟨[x0, .bx d4, x2, .fr (mD w sts), .fr (nD n), .fr (zD a), .fr (zD f), .fr (.list ((allRows w n).map natsD)), x8, x9, x10, x11, x12, x13, x14, x15, x16, .fr (natsD r)], by simp, by simp, [x0, .bx d4, x2, .fr (mD w sts), .fr (nD n), .fr (zD a), .fr (zD f), .fr (.list ((allRows w n).map natsD)), x8, x9, x10, x11, x12, x13, x14, x15, x16, .fr (natsD r)], ?_, by simp [wipeE]⟩
      generalize (allRows w n).map natsD = RS at *
      generalize natsD (led sts a r).1 = G at *
      generalize mD w sts = Md at *
      generalize zD a = A at *
      generalize natsD r = R at *
      simp [e_law_0, k]
    rw [told, ← hTD] at cc
    generalize (allRows w n).map natsD = RS at *
    generalize mD w sts = Md at *
    simp [s_b_law_6_4, cc]
  -- they are told one to one
  have srt := sort_rows (w := w) (n := n) (by omega) (by omega) (led_perm M ha n)
  rw [← hTD] at srt
  have hfit : fit 4 (.list [.list ((allRows w n).map natsD), .list TD]) = true := by
    have f1 : ∀ l : List (List Nat), l.length ≤ 100000 → (∀ r ∈ l, r.length ≤ 1000) → fit 3 (.list (l.map natsD)) = true := fun l hl hr => fit_mono (fit_l (by simpa using hl) fun x hx => by
      obtain ⟨r, hr', rfl⟩ := List.mem_map.mp hx
      exact fit_nats (n := 0) (by have := hr r hr'; omega))
    refine fit_l (by simp) fun x hx => ?_
    simp only [List.mem_cons, List.mem_nil_iff, or_false] at hx
    rcases hx with rfl | rfl
    · exact f1 _ (by omega) fun r hr => by have := (rmem r hr).1; omega
    · rw [hTD]
      refine f1 _ (by rw [List.length_map]; omega) fun r hr => ?_
      obtain ⟨r', hr', rfl⟩ := List.mem_map.mp hr
      have := led_ok M ha (rmem r' hr').2
      have := (rmem r' hr').1
      omega
  have sm := h.same _ hfit
  have q5 : ex Φ s_b_law_6_5 [x0, .bx d4, x2, .fr (mD w sts), .fr (nD n), .fr (zD a), .fr (zD f), .fr (.list ((allRows w n).map natsD)), .bx TD, x9, x10, x11, x12, x13, x14, x15, x16, x17] = .ok .nx [x0, .bx d4, x2, .fr (mD w sts), .fr (nD n), .fr (zD a), .fr (zD f), .fr (.list ((allRows w n).map natsD)), .fr (.list TD), x9, x10, x11, x12, x13, x14, x15, x16, x17] := by
    have cc : ev Φ c_law_3 [x0, .bx d4, x2, .fr (mD w sts), .fr (nD n), .fr (zD a), .fr (zD f), .fr (.list ((allRows w n).map natsD)), .fr (.list TD), x9, x10, x11, x12, x13, x14, x15, x16, x17] = .ok (.ow ((allRows w n).map fun r => natsD (lawLed sts a r))) [x0, .bx d4, x2, .fr (mD w sts), .fr (nD n), .fr (zD a), .fr (zD f), .fr (.list ((allRows w n).map natsD)), .fr (.list TD), x9, x10, x11, x12, x13, x14, x15, x16, x17] := by
      refine ev_comp_mapG (g := natsD) (ρ1 := [x0, .bx d4, x2, .fr (mD w sts), .fr (nD n), .fr (zD a), .fr (zD f), .fr (.list ((allRows w n).map natsD)), .fr (.list TD), x9, x10, x11, x12, x13, x14, x15, x16, x17]) (ρw := [x0, .bx d4, x2, .fr (mD w sts), .fr (nD n), .fr (zD a), .fr (zD f), .fr (.list ((allRows w n).map natsD)), .fr (.list TD), x9, x10, x11, x12, x13, x14, x15, x16, .no]) (by simp) (by simp [wipeE]) (by simp [wipeE]) (by simp [backE]) hlim fun r hr => ?_
      have k := h.lled w sts a r M ha (rmem r hr).2 (by have := (rmem r hr).1; omega)
      refine ⟨[x0, .bx d4, x2, .fr (mD w sts), .fr (nD n), .fr (zD a), .fr (zD f), .fr (.list ((allRows w n).map natsD)), .fr (.list TD), x9, x10, x11, x12, x13, x14, x15, x16, .fr (natsD r)], by simp, by simp, [x0, .bx d4, x2, .fr (mD w sts), .fr (nD n), .fr (zD a), .fr (zD f), .fr (.list ((allRows w n).map natsD)), .fr (.list TD), x9, x10, x11, x12, x13, x14, x15, x16, .fr (natsD r)], ?_, by simp [wipeE]⟩
      generalize (allRows w n).map natsD = RS at *
      generalize natsD (lawLed sts a r) = G at *
      generalize mD w sts = Md at *
      generalize zD a = A at *
      generalize natsD r = R at *
      simp [e_law_2, k]
    rw [told2, ← hTD] at cc
    generalize (allRows w n).map natsD = RS at *
    generalize mD w sts = Md at *
    simp [s_b_law_6_5, srt, cc, sm]
  -- some rows
  obtain ⟨ps, rest, s5, p1, p2, hs5, e5⟩ := h.pick _ _ ((allRows w n).map natsD) 6 hs4 (by simp; omega) (by decide) (by omega)
  obtain ⟨d5, rfl⟩ := tin_bx hs5
  have pl : ps.length ≤ 6 := by omega
  have pm : ∀ d ∈ ps, ∃ r, r ∈ allRows w n ∧ natsD r = d := fun d hd => List.mem_map.mp (p1.mem_iff.mp (List.mem_append_left _ hd))
  have q6 : ∃ s' y9 y10 y11 y12 y13 y14 y15 y16, Tin s' (b + 1000) ∧ ex Φ s_b_law_6_6 [x0, .bx d4, x2, .fr (mD w sts), .fr (nD n), .fr (zD a), .fr (zD f), .fr (.list ((allRows w n).map natsD)), .fr (.list TD), x9, x10, x11, x12, x13, x14, x15, x16, x17] = .ok .nx [x0, s', x2, .fr (mD w sts), .fr (nD n), .fr (zD a), .fr (zD f), .fr (.list ((allRows w n).map natsD)), .fr (.list TD), y9, y10, y11, y12, y13, y14, y15, y16, x17] := by
    have c := callV_bff (F := Φ "_law_pick") (i := 1) (ρ := [x0, .bx d4, x2, .fr (mD w sts), .fr (nD n), .fr (zD a), .fr (zD f), .fr (.list ((allRows w n).map natsD)), .fr (.list TD), x9, x10, x11, x12, x13, x14, x15, x16, x17]) (a := .list ((allRows w n).map natsD)) (b := nD 6) (s := .bx d4) rfl
    rw [e5] at c
    have c : callV (Φ "_law_pick") [.bx 1, .fr (.list ((allRows w n).map natsD)), .fr (.int 6)] [x0, .bx d4, x2, .fr (mD w sts), .fr (nD n), .fr (zD a), .fr (zD f), .fr (.list ((allRows w n).map natsD)), .fr (.list TD), x9, x10, x11, x12, x13, x14, x15, x16, x17] = _ := c
    have ei : evi Φ (.dat (.call "_law_pick" (.cons (.var 1) (.cons (.var 7) (.cons (.lit (.int 6)) .nil))))) [x0, .bx d4, x2, .fr (mD w sts), .fr (nD n), .fr (zD a), .fr (zD f), .fr (.list ((allRows w n).map natsD)), .fr (.list TD), x9, x10, x11, x12, x13, x14, x15, x16, x17] = .ok ps [x0, .bx d5, x2, .fr (mD w sts), .fr (nD n), .fr (zD a), .fr (zD f), .fr (.list ((allRows w n).map natsD)), .fr (.list TD), x9, x10, x11, x12, x13, x14, x15, x16, x17] := by
      clear pm p1 hfit sm e5
      generalize (allRows w n).map natsD = RS at *
      generalize mD w sts = Md at *
      simp [c]
    unfold s_b_law_6_6 l_law_5
    rw [ex_forr, ei, Out.bind_ok]
    obtain ⟨ρ', g1, s', y9, y10, y11, y12, y13, y14, y15, y16, hs', rfl⟩ := floop_invN (tg := .nm 9) (b := ex Φ b_law_4) (I := fun j ρ => ∃ s y9 y10 y11 y12 y13 y14 y15 y16, Tin s (b + 600 + j) ∧ ρ = [x0, s, x2, .fr (mD w sts), .fr (nD n), .fr (zD a), .fr (zD f), .fr (.list ((allRows w n).map natsD)), .fr (.list TD), y9, y10, y11, y12, y13, y14, y15, y16, x17]) (ds := ps) (k := 0) (ρ := [x0, .bx d5, x2, .fr (mD w sts), .fr (nD n), .fr (zD a), .fr (zD f), .fr (.list ((allRows w n).map natsD)), .fr (.list TD), x9, x10, x11, x12, x13, x14, x15, x16, x17])
      ⟨_, _, _, _, _, _, _, _, _, tin_mono hs5 (by omega), rfl⟩ (by
      rintro d hd j ρ hj ⟨s, y9, y10, y11, y12, y13, y14, y15, y16, hs, rfl⟩
      obtain ⟨r, hr, rfl⟩ := pm d hd
      obtain ⟨s', z10, z11, z12, z13, z14, z15, z16, hs', e⟩ := row_turn h (n := n) (x0 := x0) (x2 := x2) (x8 := .fr (.list TD)) (x10 := y10) (x11 := y11) (x12 := y12) (x13 := y13) (x14 := y14) (x15 := y15) (x16 := y16) (x17 := x17) (RS := .list ((allRows w n).map natsD)) M ha (by omega) hf (by omega) (rmem r hr).2 (rmem r hr).1 (by omega) hs (by omega)
      exact ⟨_, by simp, _, e, s', _, _, _, _, _, _, _, _, tin_mono hs' (by omega), rfl⟩)
    exact ⟨s', y9, y10, y11, y12, y13, y14, y15, y16, tin_mono hs' (by omega), g1⟩
  obtain ⟨s', y9, y10, y11, y12, y13, y14, y15, y16, hs', q6⟩ := q6
  refine ⟨s', .fr (mD w sts), .fr (nD n), .fr (zD a), .fr (zD f), .fr (.list ((allRows w n).map natsD)), .fr (.list TD), y9, y10, y11, y12, y13, y14, y15, y16, x17, hs', ?_⟩
  unfold b_law_6
  rw [seq_nx q0, seq_nx q1, seq_nx q2, seq_nx q3, seq_nx q4, seq_nx q5, seq_nx q6]
  exact ex_skip
theorem law_keeps {Φ : Fns} (h : LawPhi Φ) : ∀ ns : List Int, ns.length ≤ 63 → ∃ ρ, fnV Φ 1 17 [0] t_law [.scr ns] = .ok (.fr (.bool true)) ρ := by
  intro ns hn
  obtain ⟨cs, hc, e1⟩ := h.cells ns hn
  obtain ⟨u, v, e2⟩ := h.box cs 0 (by omega) (by decide)
  have c1 := callV_bf (F := Φ "_law_cells") (i := 0) (ρ := [.scr ns, .no, .no, .no, .no, .no, .no, .no, .no, .no, .no, .no, .no, .no, .no, .no, .no, .no]) (a := nD 1) (s := .scr ns) rfl
  rw [e1] at c1
  have st : ex Φ (.set 1 (.call "_law_box" (.cons (.call "_law_cells" (.cons (.var 0) (.cons (.lit (.int 1)) .nil))) (.cons (.lit (.int 0)) .nil)))) [.scr ns, .no, .no, .no, .no, .no, .no, .no, .no, .no, .no, .no, .no, .no, .no, .no, .no, .no] = .ok .nx [.scr ns, .bx [.int u, .int v, .int 0], .no, .no, .no, .no, .no, .no, .no, .no, .no, .no, .no, .no, .no, .no, .no, .no] := by
    have c1' : callV (Φ "_law_cells") [.bx 0, .fr (.int 1)] [.scr ns, .no, .no, .no, .no, .no, .no, .no, .no, .no, .no, .no, .no, .no, .no, .no, .no, .no] = _ := c1
    have e2' : Φ "_law_box" [.fr (.list (zs cs)), .fr (.int 0)] = .ok (.ow [.int u, .int v, .int 0]) [.fr (.list (zs cs)), .fr (.int 0)] := e2
    generalize zs cs = C at *
    simp [c1', e2']
  have lp : ∃ s x2 x3 x4 x5 x6 x7 x8 x9 x10 x11 x12 x13 x14 x15 x16 x17, ex Φ l_law_7 [.scr ns, .bx [.int u, .int v, .int 0], .no, .no, .no, .no, .no, .no, .no, .no, .no, .no, .no, .no, .no, .no, .no, .no] = .ok .nx [.scr ns, s, x2, x3, x4, x5, x6, x7, x8, x9, x10, x11, x12, x13, x14, x15, x16, x17] := by
    obtain ⟨ρ', h1, s, x2, x3, x4, x5, x6, x7, x8, x9, x10, x11, x12, x13, x14, x15, x16, x17, hs, rfl⟩ := floop_invN (tg := .nm 2) (b := ex Φ b_law_6) (I := fun j ρ => ∃ s x2 x3 x4 x5 x6 x7 x8 x9 x10 x11 x12 x13 x14 x15 x16 x17, Tin s (1000 * j) ∧ ρ = [.scr ns, s, x2, x3, x4, x5, x6, x7, x8, x9, x10, x11, x12, x13, x14, x15, x16, x17]) (ds := (List.range 4).map nD) (k := 0) (ρ := [.scr ns, .bx [.int u, .int v, .int 0], .no, .no, .no, .no, .no, .no, .no, .no, .no, .no, .no, .no, .no, .no, .no, .no])
      ⟨_, _, _, _, _, _, _, _, _, _, _, _, _, _, _, _, _, ⟨_, _, _, rfl, by decide, by decide⟩, rfl⟩ (by
      rintro d hd j ρ hj ⟨s, x2, x3, x4, x5, x6, x7, x8, x9, x10, x11, x12, x13, x14, x15, x16, x17, hs, rfl⟩
      rw [List.length_map, List.length_range] at hj
      obtain ⟨s', y3, y4, y5, y6, y7, y8, y9, y10, y11, y12, y13, y14, y15, y16, y17, hs', e⟩ := lap_turn (x0 := .scr ns) (x2 := .fr d) (x3 := x3) (x4 := x4) (x5 := x5) (x6 := x6) (x7 := x7) (x8 := x8) (x9 := x9) (x10 := x10) (x11 := x11) (x12 := x12) (x13 := x13) (x14 := x14) (x15 := x15) (x16 := x16) (x17 := x17) h hs (by omega)
      exact ⟨[.scr ns, s, .fr d, x3, x4, x5, x6, x7, x8, x9, x10, x11, x12, x13, x14, x15, x16, x17], by simp, _, e, s', _, y3, y4, y5, y6, y7, y8, y9, y10, y11, y12, y13, y14, y15, y16, y17, tin_mono hs' (by omega), rfl⟩)
    refine ⟨s, x2, x3, x4, x5, x6, x7, x8, x9, x10, x11, x12, x13, x14, x15, x16, x17, ?_⟩
    rw [← h1]
    unfold l_law_7
    rw [ex_forr]
    have rg := rng_ok (w := 4) (by decide)
    have rg' : rngD [.int 4] = _ := rg
    simp [rg']
  obtain ⟨s, x2, x3, x4, x5, x6, x7, x8, x9, x10, x11, x12, x13, x14, x15, x16, x17, lp⟩ := lp
  refine ⟨[.scr ns], ?_⟩
  rw [fnV_eq (by simp)]
  have : ex Φ t_law ([.scr ns] ++ List.replicate 17 .no) = .ok (.rt (.fr (.bool true))) [.scr ns, s, x2, x3, x4, x5, x6, x7, x8, x9, x10, x11, x12, x13, x14, x15, x16, x17] := by
    show ex Φ t_law [.scr ns, .no, .no, .no, .no, .no, .no, .no, .no, .no, .no, .no, .no, .no, .no, .no, .no, .no] = _
    unfold t_law
    rw [seq_nx st, seq_nx lp]
    simp
  rw [this]
  simp
end Wk
end T_L02
section T_K02
set_option maxHeartbeats 4000000
namespace K02
open PySem PySem.Spec PyProof.Rows L2 Wk
def topS (i : Nat) : Stmt := PySem.Challenge.pw_lettermovers_k02_main_rows_led_one_to_on.main.body.getD i (.Pass ⟨0, 0, 0, 0⟩)
abbrev s_is_number : Stmt := topS 3
abbrev s_is_within : Stmt := topS 4
abbrev s_is_long : Stmt := topS 5
abbrev s_are_numbers : Stmt := topS 6
abbrev s_tupled : Stmt := topS 7
abbrev s_is_shuffle_of : Stmt := topS 8
abbrev s_is_state_of : Stmt := topS 15
abbrev s_is_machine_in : Stmt := topS 16
abbrev s_sure_machine : Stmt := topS 17
abbrev s_is_word_of : Stmt := topS 18
abbrev s_sure_word : Stmt := topS 19
abbrev s_is_row_of : Stmt := topS 20
abbrev s_sure_row : Stmt := topS 21
abbrev s_short_in : Stmt := topS 22
abbrev s_back_in : Stmt := topS 23
abbrev s_step_in : Stmt := topS 24
abbrev s_led_in : Stmt := topS 25
abbrev s_shortened : Stmt := topS 26
abbrev s_word_back : Stmt := topS 27
abbrev s_row_led : Stmt := topS 28
abbrev s_part_at : Stmt := topS 29
abbrev s_joined : Stmt := topS 30
abbrev s__law_box : Stmt := topS 32
abbrev s__law_take : Stmt := topS 33
abbrev s__law_cells : Stmt := topS 34
abbrev s__law_of : Stmt := topS 35
abbrev s__law_pick : Stmt := topS 36
abbrev s__law_same : Stmt := topS 37
abbrev s__law_flat : Stmt := topS 38
abbrev s__law_short : Stmt := topS 39
abbrev s__law_back : Stmt := topS 40
abbrev s__law_one : Stmt := topS 41
abbrev s__law_led : Stmt := topS 42
abbrev s__law_rows : Stmt := topS 43
abbrev s__law_shuffle : Stmt := topS 44
abbrev s__law_any : Stmt := topS 45
abbrev s__law_bounded : Stmt := topS 46
abbrev s__law_add : Stmt := topS 47
abbrev s__law_sorts : Stmt := topS 48
abbrev s__law_known : Stmt := topS 49
abbrev s__law_some : Stmt := topS 50
abbrev s__law_word : Stmt := topS 51
abbrev s_law : Stmt := topS 52
def stOf (s : String) : Stmt :=
  if s = "is_number" then s_is_number else
  if s = "is_within" then s_is_within else
  if s = "is_long" then s_is_long else
  if s = "are_numbers" then s_are_numbers else
  if s = "tupled" then s_tupled else
  if s = "is_shuffle_of" then s_is_shuffle_of else
  if s = "is_state_of" then s_is_state_of else
  if s = "is_machine_in" then s_is_machine_in else
  if s = "sure_machine" then s_sure_machine else
  if s = "is_word_of" then s_is_word_of else
  if s = "sure_word" then s_sure_word else
  if s = "is_row_of" then s_is_row_of else
  if s = "sure_row" then s_sure_row else
  if s = "short_in" then s_short_in else
  if s = "back_in" then s_back_in else
  if s = "step_in" then s_step_in else
  if s = "led_in" then s_led_in else
  if s = "shortened" then s_shortened else
  if s = "word_back" then s_word_back else
  if s = "row_led" then s_row_led else
  if s = "part_at" then s_part_at else
  if s = "joined" then s_joined else
  if s = "_law_box" then s__law_box else
  if s = "_law_take" then s__law_take else
  if s = "_law_cells" then s__law_cells else
  if s = "_law_of" then s__law_of else
  if s = "_law_pick" then s__law_pick else
  if s = "_law_same" then s__law_same else
  if s = "_law_flat" then s__law_flat else
  if s = "_law_short" then s__law_short else
  if s = "_law_back" then s__law_back else
  if s = "_law_one" then s__law_one else
  if s = "_law_led" then s__law_led else
  if s = "_law_rows" then s__law_rows else
  if s = "_law_shuffle" then s__law_shuffle else
  if s = "_law_any" then s__law_any else
  if s = "_law_bounded" then s__law_bounded else
  if s = "_law_add" then s__law_add else
  if s = "_law_sorts" then s__law_sorts else
  if s = "_law_known" then s__law_known else
  if s = "_law_some" then s__law_some else
  if s = "_law_word" then s__law_word else
  if s = "law" then s_law else .Pass ⟨0, 0, 0, 0⟩
def G : Gx where
  blt := ["isinstance", "int", "bool", "str", "list", "tuple", "len", "abs", "all", "sorted", "range", "enumerate", "zip", "min"]
  fns := [(("is_number" : Str), "is_number", ([("thing" : Str)] : List Str)),
    (("is_within" : Str), "is_within", ([("thing" : Str), ("least" : Str), ("most" : Str)] : List Str)),
    (("is_long" : Str), "is_long", ([("thing" : Str), ("length" : Str)] : List Str)),
    (("are_numbers" : Str), "are_numbers", ([("thing" : Str)] : List Str)),
    (("tupled" : Str), "tupled", ([("value" : Str)] : List Str)),
    (("is_shuffle_of" : Str), "is_shuffle_of", ([("many" : Str), ("thing" : Str)] : List Str)),
    (("is_state_of" : Str), "is_state_of", ([("wide" : Str), ("many" : Str), ("thing" : Str)] : List Str)),
    (("is_machine_in" : Str), "is_machine_in", ([("thing" : Str)] : List Str)),
    (("sure_machine" : Str), "sure_machine", ([("value" : Str)] : List Str)),
    (("is_word_of" : Str), "is_word_of", ([("machine" : Str), ("thing" : Str)] : List Str)),
    (("sure_word" : Str), "sure_word", ([("machine" : Str), ("value" : Str)] : List Str)),
    (("is_row_of" : Str), "is_row_of", ([("wide" : Str), ("thing" : Str)] : List Str)),
    (("sure_row" : Str), "sure_row", ([("machine" : Str), ("value" : Str)] : List Str)),
    (("short_in" : Str), "short_in", ([("word" : Str)] : List Str)),
    (("back_in" : Str), "back_in", ([("word" : Str)] : List Str)),
    (("step_in" : Str), "step_in", ([("machine" : Str), ("word" : Str), ("letter" : Str)] : List Str)),
    (("led_in" : Str), "led_in", ([("machine" : Str), ("word" : Str), ("row" : Str)] : List Str)),
    (("shortened" : Str), "shortened", ([("machine" : Str), ("word" : Str)] : List Str)),
    (("word_back" : Str), "word_back", ([("machine" : Str), ("word" : Str)] : List Str)),
    (("row_led" : Str), "row_led", ([("machine" : Str), ("word" : Str), ("row" : Str)] : List Str)),
    (("part_at" : Str), "part_at", ([("machine" : Str), ("word" : Str), ("row" : Str)] : List Str)),
    (("joined" : Str), "joined", ([("machine" : Str), ("one" : Str), ("other" : Str)] : List Str)),
    (("_law_box" : Str), "_law_box", ([("script" : Str), ("k" : Str)] : List Str)),
    (("_law_take" : Str), "_law_take", ([("tin" : Str), ("below_so" : Str)] : List Str)),
    (("_law_cells" : Str), "_law_cells", ([("script" : Str), ("most_so" : Str)] : List Str)),
    (("_law_of" : Str), "_law_of", ([("tin" : Str), ("goods_so" : Str)] : List Str)),
    (("_law_pick" : Str), "_law_pick", ([("tin" : Str), ("goods_so" : Str), ("count_so" : Str)] : List Str)),
    (("_law_same" : Str), "_law_same", ([("got" : Str), ("due" : Str)] : List Str)),
    (("_law_flat" : Str), "_law_flat", ([("rows_so" : Str)] : List Str)),
    (("_law_short" : Str), "_law_short", ([("word_so" : Str)] : List Str)),
    (("_law_back" : Str), "_law_back", ([("word_so" : Str)] : List Str)),
    (("_law_one" : Str), "_law_one", ([("machine_so" : Str), ("k" : Str), ("x" : Str)] : List Str)),
    (("_law_led" : Str), "_law_led", ([("machine_so" : Str), ("word_so" : Str), ("row_so" : Str)] : List Str)),
    (("_law_rows" : Str), "_law_rows", ([("wide_so" : Str), ("long_so" : Str)] : List Str)),
    (("_law_shuffle" : Str), "_law_shuffle", ([("tin" : Str), ("many_so" : Str)] : List Str)),
    (("_law_any" : Str), "_law_any", ([("tin" : Str), ("wide_so" : Str), ("most_so" : Str)] : List Str)),
    (("_law_bounded" : Str), "_law_bounded", ([("tin" : Str), ("wide_so" : Str)] : List Str)),
    (("_law_add" : Str), "_law_add", ([("wide_so" : Str)] : List Str)),
    (("_law_sorts" : Str), "_law_sorts", ([] : List Str)),
    (("_law_known" : Str), "_law_known", ([] : List Str)),
    (("_law_some" : Str), "_law_some", ([("tin" : Str)] : List Str)),
    (("_law_word" : Str), "_law_word", ([("tin" : Str), ("machine_so" : Str), ("long_so" : Str)] : List Str)),
    (("law" : Str), "law", ([("script" : Str)] : List Str))]
  con := [("LEAST_WIDE", (.int 2)), ("MOST_WIDE", (.int 5)), ("MOST_STATES", (.int 12)), ("MOST_WORD", (.int 40)), ("MOST_ROW", (.int 40))]
  exs := [("Unfit", "Unfit")]
  st := stOf
def d_is_number : Df := ⟨"is_number", ["thing"], ["thing"], [0]⟩
def d_is_within : Df := ⟨"is_within", ["thing", "least", "most"], ["thing", "least", "most"], [0, 1, 2]⟩
def d_is_long : Df := ⟨"is_long", ["thing", "length"], ["thing", "length"], [0, 1]⟩
def d_are_numbers : Df := ⟨"are_numbers", ["thing", "own"], ["thing"], [0]⟩
def d_tupled : Df := ⟨"tupled", ["value", "own"], ["value"], [0]⟩
def d_is_shuffle_of : Df := ⟨"is_shuffle_of", ["many", "thing"], ["many", "thing"], [0, 1]⟩
def d_is_state_of : Df := ⟨"is_state_of", ["wide", "many", "thing", "own"], ["wide", "many", "thing"], [0, 1, 2]⟩
def d_is_machine_in : Df := ⟨"is_machine_in", ["thing", "many", "own"], ["thing"], [0]⟩
def d_sure_machine : Df := ⟨"sure_machine", ["value", "own"], ["value"], [0]⟩
def d_is_word_of : Df := ⟨"is_word_of", ["machine", "thing", "many", "own"], ["machine", "thing"], [0, 1]⟩
def d_sure_word : Df := ⟨"sure_word", ["machine", "value", "own"], ["machine", "value"], [0, 1]⟩
def d_is_row_of : Df := ⟨"is_row_of", ["wide", "thing", "own"], ["wide", "thing"], [0, 1]⟩
def d_sure_row : Df := ⟨"sure_row", ["machine", "value", "own"], ["machine", "value"], [0, 1]⟩
def d_short_in : Df := ⟨"short_in", ["word", "found", "own"], ["word"], [0]⟩
def d_back_in : Df := ⟨"back_in", ["word", "own"], ["word"], [0]⟩
def d_step_in : Df := ⟨"step_in", ["machine", "word", "letter", "found", "own", "outs", "nexts"], ["machine", "word", "letter"], [0, 1]⟩
def d_led_in : Df := ⟨"led_in", ["machine", "word", "row", "found", "here", "letter", "goal"], ["machine", "word", "row"], [0, 1, 2]⟩
def d_shortened : Df := ⟨"shortened", ["machine", "word", "own"], ["machine", "word"], [0, 1]⟩
def d_word_back : Df := ⟨"word_back", ["machine", "word", "own"], ["machine", "word"], [0, 1]⟩
def d_row_led : Df := ⟨"row_led", ["machine", "word", "row", "own", "told"], ["machine", "word", "row"], [0, 1, 2]⟩
def d_part_at : Df := ⟨"part_at", ["machine", "word", "row", "own", "told"], ["machine", "word", "row"], [0, 1, 2]⟩
def d_joined : Df := ⟨"joined", ["machine", "one", "other", "own", "near"], ["machine", "one", "other"], [0, 1, 2]⟩
def d__law_box : Df := ⟨"_law_box", ["script", "k", "bit_so"], ["script", "k"], [0, 1]⟩
def d__law_take : Df := ⟨"_law_take", ["tin", "below_so", "once_so", "wide_so", "twice_so", "drawn_so"], ["tin", "below_so"], [0, 1]⟩
def d__law_cells : Df := ⟨"_law_cells", ["script", "most_so", "cells_so", "k", "bit_so", "at_so"], ["script", "most_so"], [0, 1]⟩
def d__law_of : Df := ⟨"_law_of", ["tin", "goods_so"], ["tin", "goods_so"], [0, 1]⟩
def d__law_pick : Df := ⟨"_law_pick", ["tin", "goods_so", "count_so", "pool_so", "found", "lap"], ["tin", "goods_so", "count_so"], [0, 1, 2]⟩
def d__law_same : Df := ⟨"_law_same", ["got", "due", "mine", "its"], ["got", "due"], [0, 1]⟩
def d__law_flat : Df := ⟨"_law_flat", ["rows_so", "found", "own"], ["rows_so"], [0]⟩
def d__law_short : Df := ⟨"_law_short", ["word_so", "found", "own"], ["word_so"], [0]⟩
def d__law_back : Df := ⟨"_law_back", ["word_so", "own"], ["word_so"], [0]⟩
def d__law_one : Df := ⟨"_law_one", ["machine_so", "k", "x", "outs_so", "nexts_so", "y"], ["machine_so", "k", "x"], [0, 1, 2]⟩
def d__law_led : Df := ⟨"_law_led", ["machine_so", "word_so", "row_so", "own", "here", "found", "x", "goal_so"], ["machine_so", "word_so", "row_so"], [0, 1]⟩
def d__law_rows : Df := ⟨"_law_rows", ["wide_so", "long_so", "found", "lap", "own", "x"], ["wide_so", "long_so"], [0, 1]⟩
def d__law_shuffle : Df := ⟨"_law_shuffle", ["tin", "many_so"], ["tin", "many_so"], [0, 1]⟩
def d__law_any : Df := ⟨"_law_any", ["tin", "wide_so", "most_so", "many_so", "states_so", "k", "outs_so", "x"], ["tin", "wide_so", "most_so"], [0, 1, 2]⟩
def d__law_bounded : Df := ⟨"_law_bounded", ["tin", "wide_so", "many_so", "ends_so", "states_so", "k", "nexts_so", "goal_so", "spot_so", "outs_so", "x"], ["tin", "wide_so"], [0, 1]⟩
def d__law_add : Df := ⟨"_law_add", ["wide_so", "x"], ["wide_so"], [0]⟩
def d__law_sorts : Df := ⟨"_law_sorts", [], [], []⟩
def d__law_known : Df := ⟨"_law_known", ["found"], [], []⟩
def d__law_some : Df := ⟨"_law_some", ["tin", "kind_so"], ["tin"], [0]⟩
def d__law_word : Df := ⟨"_law_word", ["tin", "machine_so", "long_so", "k"], ["tin", "machine_so", "long_so"], [0, 1, 2]⟩
def d_law : Df := ⟨"law", ["script", "tin", "lap", "own", "long_so", "word_so", "far_so", "rows_so", "told_so", "row_so", "goal_so", "k", "got", "both_so", "part_so", "near", "far", "its"], ["script"], [0]⟩
theorem ok_is_number : d_is_number.ok G = true := by decide +kernel
theorem ok_is_within : d_is_within.ok G = true := by decide +kernel
theorem ok_is_long : d_is_long.ok G = true := by decide +kernel
theorem ok_are_numbers : d_are_numbers.ok G = true := by decide +kernel
theorem ok_tupled : d_tupled.ok G = true := by decide +kernel
theorem ok_is_shuffle_of : d_is_shuffle_of.ok G = true := by decide +kernel
theorem ok_is_state_of : d_is_state_of.ok G = true := by decide +kernel
theorem ok_is_machine_in : d_is_machine_in.ok G = true := by decide +kernel
theorem ok_sure_machine : d_sure_machine.ok G = true := by decide +kernel
theorem ok_is_word_of : d_is_word_of.ok G = true := by decide +kernel
theorem ok_sure_word : d_sure_word.ok G = true := by decide +kernel
theorem ok_is_row_of : d_is_row_of.ok G = true := by decide +kernel
theorem ok_sure_row : d_sure_row.ok G = true := by decide +kernel
theorem ok_short_in : d_short_in.ok G = true := by decide +kernel
theorem ok_back_in : d_back_in.ok G = true := by decide +kernel
theorem ok_step_in : d_step_in.ok G = true := by decide +kernel
theorem ok_led_in : d_led_in.ok G = true := by decide +kernel
theorem ok_shortened : d_shortened.ok G = true := by decide +kernel
theorem ok_word_back : d_word_back.ok G = true := by decide +kernel
theorem ok_row_led : d_row_led.ok G = true := by decide +kernel
theorem ok_part_at : d_part_at.ok G = true := by decide +kernel
theorem ok_joined : d_joined.ok G = true := by decide +kernel
theorem ok__law_box : d__law_box.ok G = true := by decide +kernel
theorem ok__law_take : d__law_take.ok G = true := by decide +kernel
theorem ok__law_cells : d__law_cells.ok G = true := by decide +kernel
theorem ok__law_of : d__law_of.ok G = true := by decide +kernel
theorem ok__law_pick : d__law_pick.ok G = true := by decide +kernel
theorem ok__law_same : d__law_same.ok G = true := by decide +kernel
theorem ok__law_flat : d__law_flat.ok G = true := by decide +kernel
theorem ok__law_short : d__law_short.ok G = true := by decide +kernel
theorem ok__law_back : d__law_back.ok G = true := by decide +kernel
theorem ok__law_one : d__law_one.ok G = true := by decide +kernel
theorem ok__law_led : d__law_led.ok G = true := by decide +kernel
theorem ok__law_rows : d__law_rows.ok G = true := by decide +kernel
theorem ok__law_shuffle : d__law_shuffle.ok G = true := by decide +kernel
theorem ok__law_any : d__law_any.ok G = true := by decide +kernel
theorem ok__law_bounded : d__law_bounded.ok G = true := by decide +kernel
theorem ok__law_add : d__law_add.ok G = true := by decide +kernel
theorem ok__law_sorts : d__law_sorts.ok G = true := by decide +kernel
theorem ok__law_known : d__law_known.ok G = true := by decide +kernel
theorem ok__law_some : d__law_some.ok G = true := by decide +kernel
theorem ok__law_word : d__law_word.ok G = true := by decide +kernel
theorem ok_law : d_law.ok G = true := by decide +kernel
def D0 : List Df := []
def D1 : List Df := d_is_number :: D0
def D2 : List Df := d_is_within :: D1
def D3 : List Df := d_is_long :: D2
def D4 : List Df := d_are_numbers :: D3
def D5 : List Df := List.replicate 8 d_tupled ++ D4
def D6 : List Df := d_is_shuffle_of :: D5
def D7 : List Df := d_is_state_of :: D6
def D8 : List Df := d_is_machine_in :: D7
def D9 : List Df := d_sure_machine :: D8
def D10 : List Df := d_is_word_of :: D9
def D11 : List Df := d_sure_word :: D10
def D12 : List Df := d_is_row_of :: D11
def D13 : List Df := d_sure_row :: D12
def D14 : List Df := d_short_in :: D13
def D15 : List Df := d_back_in :: D14
def D16 : List Df := d_step_in :: D15
def D17 : List Df := d_led_in :: D16
def D18 : List Df := d_shortened :: D17
def D19 : List Df := d_word_back :: D18
def D20 : List Df := d_row_led :: D19
def D21 : List Df := d_part_at :: D20
def D22 : List Df := d_joined :: D21
def D23 : List Df := d__law_box :: D22
def D24 : List Df := d__law_take :: D23
def D25 : List Df := d__law_cells :: D24
def D26 : List Df := d__law_of :: D25
def D27 : List Df := d__law_pick :: D26
def D28 : List Df := List.replicate 8 d__law_same ++ D27
def D29 : List Df := d__law_flat :: D28
def D30 : List Df := d__law_short :: D29
def D31 : List Df := d__law_back :: D30
def D32 : List Df := d__law_one :: D31
def D33 : List Df := d__law_led :: D32
def D34 : List Df := d__law_rows :: D33
def D35 : List Df := d__law_shuffle :: D34
def D36 : List Df := d__law_any :: D35
def D37 : List Df := d__law_bounded :: D36
def D38 : List Df := d__law_add :: D37
def D39 : List Df := d__law_sorts :: D38
def D40 : List Df := d__law_known :: D39
def D41 : List Df := d__law_some :: D40
def D42 : List Df := d__law_word :: D41
def D43 : List Df := d_law :: D42
theorem okD0 : (D0.all fun d => d.ok G) = true := rfl
theorem okD1 : (D1.all fun d => d.ok G) = true := by unfold D1; rw [List.all_cons, ok_is_number, okD0]; rfl
theorem okD2 : (D2.all fun d => d.ok G) = true := by unfold D2; rw [List.all_cons, ok_is_within, okD1]; rfl
theorem okD3 : (D3.all fun d => d.ok G) = true := by unfold D3; rw [List.all_cons, ok_is_long, okD2]; rfl
theorem okD4 : (D4.all fun d => d.ok G) = true := by unfold D4; rw [List.all_cons, ok_are_numbers, okD3]; rfl
theorem okD5 : (D5.all fun d => d.ok G) = true := by unfold D5; rw [List.all_append, List.all_replicate, ok_tupled, okD4]; rfl
theorem okD6 : (D6.all fun d => d.ok G) = true := by unfold D6; rw [List.all_cons, ok_is_shuffle_of, okD5]; rfl
theorem okD7 : (D7.all fun d => d.ok G) = true := by unfold D7; rw [List.all_cons, ok_is_state_of, okD6]; rfl
theorem okD8 : (D8.all fun d => d.ok G) = true := by unfold D8; rw [List.all_cons, ok_is_machine_in, okD7]; rfl
theorem okD9 : (D9.all fun d => d.ok G) = true := by unfold D9; rw [List.all_cons, ok_sure_machine, okD8]; rfl
theorem okD10 : (D10.all fun d => d.ok G) = true := by unfold D10; rw [List.all_cons, ok_is_word_of, okD9]; rfl
theorem okD11 : (D11.all fun d => d.ok G) = true := by unfold D11; rw [List.all_cons, ok_sure_word, okD10]; rfl
theorem okD12 : (D12.all fun d => d.ok G) = true := by unfold D12; rw [List.all_cons, ok_is_row_of, okD11]; rfl
theorem okD13 : (D13.all fun d => d.ok G) = true := by unfold D13; rw [List.all_cons, ok_sure_row, okD12]; rfl
theorem okD14 : (D14.all fun d => d.ok G) = true := by unfold D14; rw [List.all_cons, ok_short_in, okD13]; rfl
theorem okD15 : (D15.all fun d => d.ok G) = true := by unfold D15; rw [List.all_cons, ok_back_in, okD14]; rfl
theorem okD16 : (D16.all fun d => d.ok G) = true := by unfold D16; rw [List.all_cons, ok_step_in, okD15]; rfl
theorem okD17 : (D17.all fun d => d.ok G) = true := by unfold D17; rw [List.all_cons, ok_led_in, okD16]; rfl
theorem okD18 : (D18.all fun d => d.ok G) = true := by unfold D18; rw [List.all_cons, ok_shortened, okD17]; rfl
theorem okD19 : (D19.all fun d => d.ok G) = true := by unfold D19; rw [List.all_cons, ok_word_back, okD18]; rfl
theorem okD20 : (D20.all fun d => d.ok G) = true := by unfold D20; rw [List.all_cons, ok_row_led, okD19]; rfl
theorem okD21 : (D21.all fun d => d.ok G) = true := by unfold D21; rw [List.all_cons, ok_part_at, okD20]; rfl
theorem okD22 : (D22.all fun d => d.ok G) = true := by unfold D22; rw [List.all_cons, ok_joined, okD21]; rfl
theorem okD23 : (D23.all fun d => d.ok G) = true := by unfold D23; rw [List.all_cons, ok__law_box, okD22]; rfl
theorem okD24 : (D24.all fun d => d.ok G) = true := by unfold D24; rw [List.all_cons, ok__law_take, okD23]; rfl
theorem okD25 : (D25.all fun d => d.ok G) = true := by unfold D25; rw [List.all_cons, ok__law_cells, okD24]; rfl
theorem okD26 : (D26.all fun d => d.ok G) = true := by unfold D26; rw [List.all_cons, ok__law_of, okD25]; rfl
theorem okD27 : (D27.all fun d => d.ok G) = true := by unfold D27; rw [List.all_cons, ok__law_pick, okD26]; rfl
theorem okD28 : (D28.all fun d => d.ok G) = true := by unfold D28; rw [List.all_append, List.all_replicate, ok__law_same, okD27]; rfl
theorem okD29 : (D29.all fun d => d.ok G) = true := by unfold D29; rw [List.all_cons, ok__law_flat, okD28]; rfl
theorem okD30 : (D30.all fun d => d.ok G) = true := by unfold D30; rw [List.all_cons, ok__law_short, okD29]; rfl
theorem okD31 : (D31.all fun d => d.ok G) = true := by unfold D31; rw [List.all_cons, ok__law_back, okD30]; rfl
theorem okD32 : (D32.all fun d => d.ok G) = true := by unfold D32; rw [List.all_cons, ok__law_one, okD31]; rfl
theorem okD33 : (D33.all fun d => d.ok G) = true := by unfold D33; rw [List.all_cons, ok__law_led, okD32]; rfl
theorem okD34 : (D34.all fun d => d.ok G) = true := by unfold D34; rw [List.all_cons, ok__law_rows, okD33]; rfl
theorem okD35 : (D35.all fun d => d.ok G) = true := by unfold D35; rw [List.all_cons, ok__law_shuffle, okD34]; rfl
theorem okD36 : (D36.all fun d => d.ok G) = true := by unfold D36; rw [List.all_cons, ok__law_any, okD35]; rfl
theorem okD37 : (D37.all fun d => d.ok G) = true := by unfold D37; rw [List.all_cons, ok__law_bounded, okD36]; rfl
theorem okD38 : (D38.all fun d => d.ok G) = true := by unfold D38; rw [List.all_cons, ok__law_add, okD37]; rfl
theorem okD39 : (D39.all fun d => d.ok G) = true := by unfold D39; rw [List.all_cons, ok__law_sorts, okD38]; rfl
theorem okD40 : (D40.all fun d => d.ok G) = true := by unfold D40; rw [List.all_cons, ok__law_known, okD39]; rfl
theorem okD41 : (D41.all fun d => d.ok G) = true := by unfold D41; rw [List.all_cons, ok__law_some, okD40]; rfl
theorem okD42 : (D42.all fun d => d.ok G) = true := by unfold D42; rw [List.all_cons, ok__law_word, okD41]; rfl
theorem okD43 : (D43.all fun d => d.ok G) = true := by unfold D43; rw [List.all_cons, ok_law, okD42]; rfl
abbrev Ds : List Df := D43
theorem Ds_len : Ds.length = 57 := by decide +kernel
-- total layers 57
theorem top_mk {K : PySem.W.Frag} {h : Heap} {mg : Str → Option Value} (X : K.In h) (Y : h.Ns mainGlobals mg)
    {f_is_number : Addr} {od_is_number an_is_number : Option Addr} {sl_is_number : Array (Option Value)} {oc_is_number kV_is_number dc_is_number pm_is_number cd_is_number ct_is_number : Value}
    {f_is_within : Addr} {od_is_within an_is_within : Option Addr} {sl_is_within : Array (Option Value)} {oc_is_within kV_is_within dc_is_within pm_is_within cd_is_within ct_is_within : Value}
    {f_is_long : Addr} {od_is_long an_is_long : Option Addr} {sl_is_long : Array (Option Value)} {oc_is_long kV_is_long dc_is_long pm_is_long cd_is_long ct_is_long : Value}
    {f_are_numbers : Addr} {od_are_numbers an_are_numbers : Option Addr} {sl_are_numbers : Array (Option Value)} {oc_are_numbers kV_are_numbers dc_are_numbers pm_are_numbers cd_are_numbers ct_are_numbers : Value}
    {f_tupled : Addr} {od_tupled an_tupled : Option Addr} {sl_tupled : Array (Option Value)} {oc_tupled kV_tupled dc_tupled pm_tupled cd_tupled ct_tupled : Value}
    {f_is_shuffle_of : Addr} {od_is_shuffle_of an_is_shuffle_of : Option Addr} {sl_is_shuffle_of : Array (Option Value)} {oc_is_shuffle_of kV_is_shuffle_of dc_is_shuffle_of pm_is_shuffle_of cd_is_shuffle_of ct_is_shuffle_of : Value}
    {f_is_state_of : Addr} {od_is_state_of an_is_state_of : Option Addr} {sl_is_state_of : Array (Option Value)} {oc_is_state_of kV_is_state_of dc_is_state_of pm_is_state_of cd_is_state_of ct_is_state_of : Value}
    {f_is_machine_in : Addr} {od_is_machine_in an_is_machine_in : Option Addr} {sl_is_machine_in : Array (Option Value)} {oc_is_machine_in kV_is_machine_in dc_is_machine_in pm_is_machine_in cd_is_machine_in ct_is_machine_in : Value}
    {f_sure_machine : Addr} {od_sure_machine an_sure_machine : Option Addr} {sl_sure_machine : Array (Option Value)} {oc_sure_machine kV_sure_machine dc_sure_machine pm_sure_machine cd_sure_machine ct_sure_machine : Value}
    {f_is_word_of : Addr} {od_is_word_of an_is_word_of : Option Addr} {sl_is_word_of : Array (Option Value)} {oc_is_word_of kV_is_word_of dc_is_word_of pm_is_word_of cd_is_word_of ct_is_word_of : Value}
    {f_sure_word : Addr} {od_sure_word an_sure_word : Option Addr} {sl_sure_word : Array (Option Value)} {oc_sure_word kV_sure_word dc_sure_word pm_sure_word cd_sure_word ct_sure_word : Value}
    {f_is_row_of : Addr} {od_is_row_of an_is_row_of : Option Addr} {sl_is_row_of : Array (Option Value)} {oc_is_row_of kV_is_row_of dc_is_row_of pm_is_row_of cd_is_row_of ct_is_row_of : Value}
    {f_sure_row : Addr} {od_sure_row an_sure_row : Option Addr} {sl_sure_row : Array (Option Value)} {oc_sure_row kV_sure_row dc_sure_row pm_sure_row cd_sure_row ct_sure_row : Value}
    {f_short_in : Addr} {od_short_in an_short_in : Option Addr} {sl_short_in : Array (Option Value)} {oc_short_in kV_short_in dc_short_in pm_short_in cd_short_in ct_short_in : Value}
    {f_back_in : Addr} {od_back_in an_back_in : Option Addr} {sl_back_in : Array (Option Value)} {oc_back_in kV_back_in dc_back_in pm_back_in cd_back_in ct_back_in : Value}
    {f_step_in : Addr} {od_step_in an_step_in : Option Addr} {sl_step_in : Array (Option Value)} {oc_step_in kV_step_in dc_step_in pm_step_in cd_step_in ct_step_in : Value}
    {f_led_in : Addr} {od_led_in an_led_in : Option Addr} {sl_led_in : Array (Option Value)} {oc_led_in kV_led_in dc_led_in pm_led_in cd_led_in ct_led_in : Value}
    {f_shortened : Addr} {od_shortened an_shortened : Option Addr} {sl_shortened : Array (Option Value)} {oc_shortened kV_shortened dc_shortened pm_shortened cd_shortened ct_shortened : Value}
    {f_word_back : Addr} {od_word_back an_word_back : Option Addr} {sl_word_back : Array (Option Value)} {oc_word_back kV_word_back dc_word_back pm_word_back cd_word_back ct_word_back : Value}
    {f_row_led : Addr} {od_row_led an_row_led : Option Addr} {sl_row_led : Array (Option Value)} {oc_row_led kV_row_led dc_row_led pm_row_led cd_row_led ct_row_led : Value}
    {f_part_at : Addr} {od_part_at an_part_at : Option Addr} {sl_part_at : Array (Option Value)} {oc_part_at kV_part_at dc_part_at pm_part_at cd_part_at ct_part_at : Value}
    {f_joined : Addr} {od_joined an_joined : Option Addr} {sl_joined : Array (Option Value)} {oc_joined kV_joined dc_joined pm_joined cd_joined ct_joined : Value}
    {f__law_box : Addr} {od__law_box an__law_box : Option Addr} {sl__law_box : Array (Option Value)} {oc__law_box kV__law_box dc__law_box pm__law_box cd__law_box ct__law_box : Value}
    {f__law_take : Addr} {od__law_take an__law_take : Option Addr} {sl__law_take : Array (Option Value)} {oc__law_take kV__law_take dc__law_take pm__law_take cd__law_take ct__law_take : Value}
    {f__law_cells : Addr} {od__law_cells an__law_cells : Option Addr} {sl__law_cells : Array (Option Value)} {oc__law_cells kV__law_cells dc__law_cells pm__law_cells cd__law_cells ct__law_cells : Value}
    {f__law_of : Addr} {od__law_of an__law_of : Option Addr} {sl__law_of : Array (Option Value)} {oc__law_of kV__law_of dc__law_of pm__law_of cd__law_of ct__law_of : Value}
    {f__law_pick : Addr} {od__law_pick an__law_pick : Option Addr} {sl__law_pick : Array (Option Value)} {oc__law_pick kV__law_pick dc__law_pick pm__law_pick cd__law_pick ct__law_pick : Value}
    {f__law_same : Addr} {od__law_same an__law_same : Option Addr} {sl__law_same : Array (Option Value)} {oc__law_same kV__law_same dc__law_same pm__law_same cd__law_same ct__law_same : Value}
    {f__law_flat : Addr} {od__law_flat an__law_flat : Option Addr} {sl__law_flat : Array (Option Value)} {oc__law_flat kV__law_flat dc__law_flat pm__law_flat cd__law_flat ct__law_flat : Value}
    {f__law_short : Addr} {od__law_short an__law_short : Option Addr} {sl__law_short : Array (Option Value)} {oc__law_short kV__law_short dc__law_short pm__law_short cd__law_short ct__law_short : Value}
    {f__law_back : Addr} {od__law_back an__law_back : Option Addr} {sl__law_back : Array (Option Value)} {oc__law_back kV__law_back dc__law_back pm__law_back cd__law_back ct__law_back : Value}
    {f__law_one : Addr} {od__law_one an__law_one : Option Addr} {sl__law_one : Array (Option Value)} {oc__law_one kV__law_one dc__law_one pm__law_one cd__law_one ct__law_one : Value}
    {f__law_led : Addr} {od__law_led an__law_led : Option Addr} {sl__law_led : Array (Option Value)} {oc__law_led kV__law_led dc__law_led pm__law_led cd__law_led ct__law_led : Value}
    {f__law_rows : Addr} {od__law_rows an__law_rows : Option Addr} {sl__law_rows : Array (Option Value)} {oc__law_rows kV__law_rows dc__law_rows pm__law_rows cd__law_rows ct__law_rows : Value}
    {f__law_shuffle : Addr} {od__law_shuffle an__law_shuffle : Option Addr} {sl__law_shuffle : Array (Option Value)} {oc__law_shuffle kV__law_shuffle dc__law_shuffle pm__law_shuffle cd__law_shuffle ct__law_shuffle : Value}
    {f__law_any : Addr} {od__law_any an__law_any : Option Addr} {sl__law_any : Array (Option Value)} {oc__law_any kV__law_any dc__law_any pm__law_any cd__law_any ct__law_any : Value}
    {f__law_bounded : Addr} {od__law_bounded an__law_bounded : Option Addr} {sl__law_bounded : Array (Option Value)} {oc__law_bounded kV__law_bounded dc__law_bounded pm__law_bounded cd__law_bounded ct__law_bounded : Value}
    {f__law_add : Addr} {od__law_add an__law_add : Option Addr} {sl__law_add : Array (Option Value)} {oc__law_add kV__law_add dc__law_add pm__law_add cd__law_add ct__law_add : Value}
    {f__law_sorts : Addr} {od__law_sorts an__law_sorts : Option Addr} {sl__law_sorts : Array (Option Value)} {oc__law_sorts kV__law_sorts dc__law_sorts pm__law_sorts cd__law_sorts ct__law_sorts : Value}
    {f__law_known : Addr} {od__law_known an__law_known : Option Addr} {sl__law_known : Array (Option Value)} {oc__law_known kV__law_known dc__law_known pm__law_known cd__law_known ct__law_known : Value}
    {f__law_some : Addr} {od__law_some an__law_some : Option Addr} {sl__law_some : Array (Option Value)} {oc__law_some kV__law_some dc__law_some pm__law_some cd__law_some ct__law_some : Value}
    {f__law_word : Addr} {od__law_word an__law_word : Option Addr} {sl__law_word : Array (Option Value)} {oc__law_word kV__law_word dc__law_word pm__law_word cd__law_word ct__law_word : Value}
    {f_law : Addr} {od_law an_law : Option Addr} {sl_law : Array (Option Value)} {oc_law kV_law dc_law pm_law cd_law ct_law : Value}
    {u_LEAST_WIDE : Value}
    {u_MOST_WIDE : Value}
    {u_MOST_STATES : Value}
    {u_MOST_WORD : Value}
    {u_MOST_ROW : Value}
    {C_Unfit : Addr}
    (a_is_number : PySem.W.nsIn K mainGlobals "is_number" = some (some (.ref f_is_number))) (l_is_number : K.lookup f_is_number = some ⟨oc_is_number, od_is_number, .func (PySem.W.fnOf "is_number" "is_number" (defArgs s_is_number) (defBody s_is_number) (defScope s_is_number) .none kV_is_number dc_is_number pm_is_number an_is_number cd_is_number ct_is_number), sl_is_number⟩) (c_is_number : PySem.W.codeIn K cd_is_number "is_number" = true) (k_is_number : PySem.W.keepIn K (.ref f_is_number) = true)
    (a_is_within : PySem.W.nsIn K mainGlobals "is_within" = some (some (.ref f_is_within))) (l_is_within : K.lookup f_is_within = some ⟨oc_is_within, od_is_within, .func (PySem.W.fnOf "is_within" "is_within" (defArgs s_is_within) (defBody s_is_within) (defScope s_is_within) .none kV_is_within dc_is_within pm_is_within an_is_within cd_is_within ct_is_within), sl_is_within⟩) (c_is_within : PySem.W.codeIn K cd_is_within "is_within" = true) (k_is_within : PySem.W.keepIn K (.ref f_is_within) = true)
    (a_is_long : PySem.W.nsIn K mainGlobals "is_long" = some (some (.ref f_is_long))) (l_is_long : K.lookup f_is_long = some ⟨oc_is_long, od_is_long, .func (PySem.W.fnOf "is_long" "is_long" (defArgs s_is_long) (defBody s_is_long) (defScope s_is_long) .none kV_is_long dc_is_long pm_is_long an_is_long cd_is_long ct_is_long), sl_is_long⟩) (c_is_long : PySem.W.codeIn K cd_is_long "is_long" = true) (k_is_long : PySem.W.keepIn K (.ref f_is_long) = true)
    (a_are_numbers : PySem.W.nsIn K mainGlobals "are_numbers" = some (some (.ref f_are_numbers))) (l_are_numbers : K.lookup f_are_numbers = some ⟨oc_are_numbers, od_are_numbers, .func (PySem.W.fnOf "are_numbers" "are_numbers" (defArgs s_are_numbers) (defBody s_are_numbers) (defScope s_are_numbers) .none kV_are_numbers dc_are_numbers pm_are_numbers an_are_numbers cd_are_numbers ct_are_numbers), sl_are_numbers⟩) (c_are_numbers : PySem.W.codeIn K cd_are_numbers "are_numbers" = true) (k_are_numbers : PySem.W.keepIn K (.ref f_are_numbers) = true)
    (a_tupled : PySem.W.nsIn K mainGlobals "tupled" = some (some (.ref f_tupled))) (l_tupled : K.lookup f_tupled = some ⟨oc_tupled, od_tupled, .func (PySem.W.fnOf "tupled" "tupled" (defArgs s_tupled) (defBody s_tupled) (defScope s_tupled) .none kV_tupled dc_tupled pm_tupled an_tupled cd_tupled ct_tupled), sl_tupled⟩) (c_tupled : PySem.W.codeIn K cd_tupled "tupled" = true) (k_tupled : PySem.W.keepIn K (.ref f_tupled) = true)
    (a_is_shuffle_of : PySem.W.nsIn K mainGlobals "is_shuffle_of" = some (some (.ref f_is_shuffle_of))) (l_is_shuffle_of : K.lookup f_is_shuffle_of = some ⟨oc_is_shuffle_of, od_is_shuffle_of, .func (PySem.W.fnOf "is_shuffle_of" "is_shuffle_of" (defArgs s_is_shuffle_of) (defBody s_is_shuffle_of) (defScope s_is_shuffle_of) .none kV_is_shuffle_of dc_is_shuffle_of pm_is_shuffle_of an_is_shuffle_of cd_is_shuffle_of ct_is_shuffle_of), sl_is_shuffle_of⟩) (c_is_shuffle_of : PySem.W.codeIn K cd_is_shuffle_of "is_shuffle_of" = true) (k_is_shuffle_of : PySem.W.keepIn K (.ref f_is_shuffle_of) = true)
    (a_is_state_of : PySem.W.nsIn K mainGlobals "is_state_of" = some (some (.ref f_is_state_of))) (l_is_state_of : K.lookup f_is_state_of = some ⟨oc_is_state_of, od_is_state_of, .func (PySem.W.fnOf "is_state_of" "is_state_of" (defArgs s_is_state_of) (defBody s_is_state_of) (defScope s_is_state_of) .none kV_is_state_of dc_is_state_of pm_is_state_of an_is_state_of cd_is_state_of ct_is_state_of), sl_is_state_of⟩) (c_is_state_of : PySem.W.codeIn K cd_is_state_of "is_state_of" = true) (k_is_state_of : PySem.W.keepIn K (.ref f_is_state_of) = true)
    (a_is_machine_in : PySem.W.nsIn K mainGlobals "is_machine_in" = some (some (.ref f_is_machine_in))) (l_is_machine_in : K.lookup f_is_machine_in = some ⟨oc_is_machine_in, od_is_machine_in, .func (PySem.W.fnOf "is_machine_in" "is_machine_in" (defArgs s_is_machine_in) (defBody s_is_machine_in) (defScope s_is_machine_in) .none kV_is_machine_in dc_is_machine_in pm_is_machine_in an_is_machine_in cd_is_machine_in ct_is_machine_in), sl_is_machine_in⟩) (c_is_machine_in : PySem.W.codeIn K cd_is_machine_in "is_machine_in" = true) (k_is_machine_in : PySem.W.keepIn K (.ref f_is_machine_in) = true)
    (a_sure_machine : PySem.W.nsIn K mainGlobals "sure_machine" = some (some (.ref f_sure_machine))) (l_sure_machine : K.lookup f_sure_machine = some ⟨oc_sure_machine, od_sure_machine, .func (PySem.W.fnOf "sure_machine" "sure_machine" (defArgs s_sure_machine) (defBody s_sure_machine) (defScope s_sure_machine) .none kV_sure_machine dc_sure_machine pm_sure_machine an_sure_machine cd_sure_machine ct_sure_machine), sl_sure_machine⟩) (c_sure_machine : PySem.W.codeIn K cd_sure_machine "sure_machine" = true) (k_sure_machine : PySem.W.keepIn K (.ref f_sure_machine) = true)
    (a_is_word_of : PySem.W.nsIn K mainGlobals "is_word_of" = some (some (.ref f_is_word_of))) (l_is_word_of : K.lookup f_is_word_of = some ⟨oc_is_word_of, od_is_word_of, .func (PySem.W.fnOf "is_word_of" "is_word_of" (defArgs s_is_word_of) (defBody s_is_word_of) (defScope s_is_word_of) .none kV_is_word_of dc_is_word_of pm_is_word_of an_is_word_of cd_is_word_of ct_is_word_of), sl_is_word_of⟩) (c_is_word_of : PySem.W.codeIn K cd_is_word_of "is_word_of" = true) (k_is_word_of : PySem.W.keepIn K (.ref f_is_word_of) = true)
    (a_sure_word : PySem.W.nsIn K mainGlobals "sure_word" = some (some (.ref f_sure_word))) (l_sure_word : K.lookup f_sure_word = some ⟨oc_sure_word, od_sure_word, .func (PySem.W.fnOf "sure_word" "sure_word" (defArgs s_sure_word) (defBody s_sure_word) (defScope s_sure_word) .none kV_sure_word dc_sure_word pm_sure_word an_sure_word cd_sure_word ct_sure_word), sl_sure_word⟩) (c_sure_word : PySem.W.codeIn K cd_sure_word "sure_word" = true) (k_sure_word : PySem.W.keepIn K (.ref f_sure_word) = true)
    (a_is_row_of : PySem.W.nsIn K mainGlobals "is_row_of" = some (some (.ref f_is_row_of))) (l_is_row_of : K.lookup f_is_row_of = some ⟨oc_is_row_of, od_is_row_of, .func (PySem.W.fnOf "is_row_of" "is_row_of" (defArgs s_is_row_of) (defBody s_is_row_of) (defScope s_is_row_of) .none kV_is_row_of dc_is_row_of pm_is_row_of an_is_row_of cd_is_row_of ct_is_row_of), sl_is_row_of⟩) (c_is_row_of : PySem.W.codeIn K cd_is_row_of "is_row_of" = true) (k_is_row_of : PySem.W.keepIn K (.ref f_is_row_of) = true)
    (a_sure_row : PySem.W.nsIn K mainGlobals "sure_row" = some (some (.ref f_sure_row))) (l_sure_row : K.lookup f_sure_row = some ⟨oc_sure_row, od_sure_row, .func (PySem.W.fnOf "sure_row" "sure_row" (defArgs s_sure_row) (defBody s_sure_row) (defScope s_sure_row) .none kV_sure_row dc_sure_row pm_sure_row an_sure_row cd_sure_row ct_sure_row), sl_sure_row⟩) (c_sure_row : PySem.W.codeIn K cd_sure_row "sure_row" = true) (k_sure_row : PySem.W.keepIn K (.ref f_sure_row) = true)
    (a_short_in : PySem.W.nsIn K mainGlobals "short_in" = some (some (.ref f_short_in))) (l_short_in : K.lookup f_short_in = some ⟨oc_short_in, od_short_in, .func (PySem.W.fnOf "short_in" "short_in" (defArgs s_short_in) (defBody s_short_in) (defScope s_short_in) .none kV_short_in dc_short_in pm_short_in an_short_in cd_short_in ct_short_in), sl_short_in⟩) (c_short_in : PySem.W.codeIn K cd_short_in "short_in" = true) (k_short_in : PySem.W.keepIn K (.ref f_short_in) = true)
    (a_back_in : PySem.W.nsIn K mainGlobals "back_in" = some (some (.ref f_back_in))) (l_back_in : K.lookup f_back_in = some ⟨oc_back_in, od_back_in, .func (PySem.W.fnOf "back_in" "back_in" (defArgs s_back_in) (defBody s_back_in) (defScope s_back_in) .none kV_back_in dc_back_in pm_back_in an_back_in cd_back_in ct_back_in), sl_back_in⟩) (c_back_in : PySem.W.codeIn K cd_back_in "back_in" = true) (k_back_in : PySem.W.keepIn K (.ref f_back_in) = true)
    (a_step_in : PySem.W.nsIn K mainGlobals "step_in" = some (some (.ref f_step_in))) (l_step_in : K.lookup f_step_in = some ⟨oc_step_in, od_step_in, .func (PySem.W.fnOf "step_in" "step_in" (defArgs s_step_in) (defBody s_step_in) (defScope s_step_in) .none kV_step_in dc_step_in pm_step_in an_step_in cd_step_in ct_step_in), sl_step_in⟩) (c_step_in : PySem.W.codeIn K cd_step_in "step_in" = true) (k_step_in : PySem.W.keepIn K (.ref f_step_in) = true)
    (a_led_in : PySem.W.nsIn K mainGlobals "led_in" = some (some (.ref f_led_in))) (l_led_in : K.lookup f_led_in = some ⟨oc_led_in, od_led_in, .func (PySem.W.fnOf "led_in" "led_in" (defArgs s_led_in) (defBody s_led_in) (defScope s_led_in) .none kV_led_in dc_led_in pm_led_in an_led_in cd_led_in ct_led_in), sl_led_in⟩) (c_led_in : PySem.W.codeIn K cd_led_in "led_in" = true) (k_led_in : PySem.W.keepIn K (.ref f_led_in) = true)
    (a_shortened : PySem.W.nsIn K mainGlobals "shortened" = some (some (.ref f_shortened))) (l_shortened : K.lookup f_shortened = some ⟨oc_shortened, od_shortened, .func (PySem.W.fnOf "shortened" "shortened" (defArgs s_shortened) (defBody s_shortened) (defScope s_shortened) .none kV_shortened dc_shortened pm_shortened an_shortened cd_shortened ct_shortened), sl_shortened⟩) (c_shortened : PySem.W.codeIn K cd_shortened "shortened" = true) (k_shortened : PySem.W.keepIn K (.ref f_shortened) = true)
    (a_word_back : PySem.W.nsIn K mainGlobals "word_back" = some (some (.ref f_word_back))) (l_word_back : K.lookup f_word_back = some ⟨oc_word_back, od_word_back, .func (PySem.W.fnOf "word_back" "word_back" (defArgs s_word_back) (defBody s_word_back) (defScope s_word_back) .none kV_word_back dc_word_back pm_word_back an_word_back cd_word_back ct_word_back), sl_word_back⟩) (c_word_back : PySem.W.codeIn K cd_word_back "word_back" = true) (k_word_back : PySem.W.keepIn K (.ref f_word_back) = true)
    (a_row_led : PySem.W.nsIn K mainGlobals "row_led" = some (some (.ref f_row_led))) (l_row_led : K.lookup f_row_led = some ⟨oc_row_led, od_row_led, .func (PySem.W.fnOf "row_led" "row_led" (defArgs s_row_led) (defBody s_row_led) (defScope s_row_led) .none kV_row_led dc_row_led pm_row_led an_row_led cd_row_led ct_row_led), sl_row_led⟩) (c_row_led : PySem.W.codeIn K cd_row_led "row_led" = true) (k_row_led : PySem.W.keepIn K (.ref f_row_led) = true)
    (a_part_at : PySem.W.nsIn K mainGlobals "part_at" = some (some (.ref f_part_at))) (l_part_at : K.lookup f_part_at = some ⟨oc_part_at, od_part_at, .func (PySem.W.fnOf "part_at" "part_at" (defArgs s_part_at) (defBody s_part_at) (defScope s_part_at) .none kV_part_at dc_part_at pm_part_at an_part_at cd_part_at ct_part_at), sl_part_at⟩) (c_part_at : PySem.W.codeIn K cd_part_at "part_at" = true) (k_part_at : PySem.W.keepIn K (.ref f_part_at) = true)
    (a_joined : PySem.W.nsIn K mainGlobals "joined" = some (some (.ref f_joined))) (l_joined : K.lookup f_joined = some ⟨oc_joined, od_joined, .func (PySem.W.fnOf "joined" "joined" (defArgs s_joined) (defBody s_joined) (defScope s_joined) .none kV_joined dc_joined pm_joined an_joined cd_joined ct_joined), sl_joined⟩) (c_joined : PySem.W.codeIn K cd_joined "joined" = true) (k_joined : PySem.W.keepIn K (.ref f_joined) = true)
    (a__law_box : PySem.W.nsIn K mainGlobals "_law_box" = some (some (.ref f__law_box))) (l__law_box : K.lookup f__law_box = some ⟨oc__law_box, od__law_box, .func (PySem.W.fnOf "_law_box" "_law_box" (defArgs s__law_box) (defBody s__law_box) (defScope s__law_box) .none kV__law_box dc__law_box pm__law_box an__law_box cd__law_box ct__law_box), sl__law_box⟩) (c__law_box : PySem.W.codeIn K cd__law_box "_law_box" = true) (k__law_box : PySem.W.keepIn K (.ref f__law_box) = true)
    (a__law_take : PySem.W.nsIn K mainGlobals "_law_take" = some (some (.ref f__law_take))) (l__law_take : K.lookup f__law_take = some ⟨oc__law_take, od__law_take, .func (PySem.W.fnOf "_law_take" "_law_take" (defArgs s__law_take) (defBody s__law_take) (defScope s__law_take) .none kV__law_take dc__law_take pm__law_take an__law_take cd__law_take ct__law_take), sl__law_take⟩) (c__law_take : PySem.W.codeIn K cd__law_take "_law_take" = true) (k__law_take : PySem.W.keepIn K (.ref f__law_take) = true)
    (a__law_cells : PySem.W.nsIn K mainGlobals "_law_cells" = some (some (.ref f__law_cells))) (l__law_cells : K.lookup f__law_cells = some ⟨oc__law_cells, od__law_cells, .func (PySem.W.fnOf "_law_cells" "_law_cells" (defArgs s__law_cells) (defBody s__law_cells) (defScope s__law_cells) .none kV__law_cells dc__law_cells pm__law_cells an__law_cells cd__law_cells ct__law_cells), sl__law_cells⟩) (c__law_cells : PySem.W.codeIn K cd__law_cells "_law_cells" = true) (k__law_cells : PySem.W.keepIn K (.ref f__law_cells) = true)
    (a__law_of : PySem.W.nsIn K mainGlobals "_law_of" = some (some (.ref f__law_of))) (l__law_of : K.lookup f__law_of = some ⟨oc__law_of, od__law_of, .func (PySem.W.fnOf "_law_of" "_law_of" (defArgs s__law_of) (defBody s__law_of) (defScope s__law_of) .none kV__law_of dc__law_of pm__law_of an__law_of cd__law_of ct__law_of), sl__law_of⟩) (c__law_of : PySem.W.codeIn K cd__law_of "_law_of" = true) (k__law_of : PySem.W.keepIn K (.ref f__law_of) = true)
    (a__law_pick : PySem.W.nsIn K mainGlobals "_law_pick" = some (some (.ref f__law_pick))) (l__law_pick : K.lookup f__law_pick = some ⟨oc__law_pick, od__law_pick, .func (PySem.W.fnOf "_law_pick" "_law_pick" (defArgs s__law_pick) (defBody s__law_pick) (defScope s__law_pick) .none kV__law_pick dc__law_pick pm__law_pick an__law_pick cd__law_pick ct__law_pick), sl__law_pick⟩) (c__law_pick : PySem.W.codeIn K cd__law_pick "_law_pick" = true) (k__law_pick : PySem.W.keepIn K (.ref f__law_pick) = true)
    (a__law_same : PySem.W.nsIn K mainGlobals "_law_same" = some (some (.ref f__law_same))) (l__law_same : K.lookup f__law_same = some ⟨oc__law_same, od__law_same, .func (PySem.W.fnOf "_law_same" "_law_same" (defArgs s__law_same) (defBody s__law_same) (defScope s__law_same) .none kV__law_same dc__law_same pm__law_same an__law_same cd__law_same ct__law_same), sl__law_same⟩) (c__law_same : PySem.W.codeIn K cd__law_same "_law_same" = true) (k__law_same : PySem.W.keepIn K (.ref f__law_same) = true)
    (a__law_flat : PySem.W.nsIn K mainGlobals "_law_flat" = some (some (.ref f__law_flat))) (l__law_flat : K.lookup f__law_flat = some ⟨oc__law_flat, od__law_flat, .func (PySem.W.fnOf "_law_flat" "_law_flat" (defArgs s__law_flat) (defBody s__law_flat) (defScope s__law_flat) .none kV__law_flat dc__law_flat pm__law_flat an__law_flat cd__law_flat ct__law_flat), sl__law_flat⟩) (c__law_flat : PySem.W.codeIn K cd__law_flat "_law_flat" = true) (k__law_flat : PySem.W.keepIn K (.ref f__law_flat) = true)
    (a__law_short : PySem.W.nsIn K mainGlobals "_law_short" = some (some (.ref f__law_short))) (l__law_short : K.lookup f__law_short = some ⟨oc__law_short, od__law_short, .func (PySem.W.fnOf "_law_short" "_law_short" (defArgs s__law_short) (defBody s__law_short) (defScope s__law_short) .none kV__law_short dc__law_short pm__law_short an__law_short cd__law_short ct__law_short), sl__law_short⟩) (c__law_short : PySem.W.codeIn K cd__law_short "_law_short" = true) (k__law_short : PySem.W.keepIn K (.ref f__law_short) = true)
    (a__law_back : PySem.W.nsIn K mainGlobals "_law_back" = some (some (.ref f__law_back))) (l__law_back : K.lookup f__law_back = some ⟨oc__law_back, od__law_back, .func (PySem.W.fnOf "_law_back" "_law_back" (defArgs s__law_back) (defBody s__law_back) (defScope s__law_back) .none kV__law_back dc__law_back pm__law_back an__law_back cd__law_back ct__law_back), sl__law_back⟩) (c__law_back : PySem.W.codeIn K cd__law_back "_law_back" = true) (k__law_back : PySem.W.keepIn K (.ref f__law_back) = true)
    (a__law_one : PySem.W.nsIn K mainGlobals "_law_one" = some (some (.ref f__law_one))) (l__law_one : K.lookup f__law_one = some ⟨oc__law_one, od__law_one, .func (PySem.W.fnOf "_law_one" "_law_one" (defArgs s__law_one) (defBody s__law_one) (defScope s__law_one) .none kV__law_one dc__law_one pm__law_one an__law_one cd__law_one ct__law_one), sl__law_one⟩) (c__law_one : PySem.W.codeIn K cd__law_one "_law_one" = true) (k__law_one : PySem.W.keepIn K (.ref f__law_one) = true)
    (a__law_led : PySem.W.nsIn K mainGlobals "_law_led" = some (some (.ref f__law_led))) (l__law_led : K.lookup f__law_led = some ⟨oc__law_led, od__law_led, .func (PySem.W.fnOf "_law_led" "_law_led" (defArgs s__law_led) (defBody s__law_led) (defScope s__law_led) .none kV__law_led dc__law_led pm__law_led an__law_led cd__law_led ct__law_led), sl__law_led⟩) (c__law_led : PySem.W.codeIn K cd__law_led "_law_led" = true) (k__law_led : PySem.W.keepIn K (.ref f__law_led) = true)
    (a__law_rows : PySem.W.nsIn K mainGlobals "_law_rows" = some (some (.ref f__law_rows))) (l__law_rows : K.lookup f__law_rows = some ⟨oc__law_rows, od__law_rows, .func (PySem.W.fnOf "_law_rows" "_law_rows" (defArgs s__law_rows) (defBody s__law_rows) (defScope s__law_rows) .none kV__law_rows dc__law_rows pm__law_rows an__law_rows cd__law_rows ct__law_rows), sl__law_rows⟩) (c__law_rows : PySem.W.codeIn K cd__law_rows "_law_rows" = true) (k__law_rows : PySem.W.keepIn K (.ref f__law_rows) = true)
    (a__law_shuffle : PySem.W.nsIn K mainGlobals "_law_shuffle" = some (some (.ref f__law_shuffle))) (l__law_shuffle : K.lookup f__law_shuffle = some ⟨oc__law_shuffle, od__law_shuffle, .func (PySem.W.fnOf "_law_shuffle" "_law_shuffle" (defArgs s__law_shuffle) (defBody s__law_shuffle) (defScope s__law_shuffle) .none kV__law_shuffle dc__law_shuffle pm__law_shuffle an__law_shuffle cd__law_shuffle ct__law_shuffle), sl__law_shuffle⟩) (c__law_shuffle : PySem.W.codeIn K cd__law_shuffle "_law_shuffle" = true) (k__law_shuffle : PySem.W.keepIn K (.ref f__law_shuffle) = true)
    (a__law_any : PySem.W.nsIn K mainGlobals "_law_any" = some (some (.ref f__law_any))) (l__law_any : K.lookup f__law_any = some ⟨oc__law_any, od__law_any, .func (PySem.W.fnOf "_law_any" "_law_any" (defArgs s__law_any) (defBody s__law_any) (defScope s__law_any) .none kV__law_any dc__law_any pm__law_any an__law_any cd__law_any ct__law_any), sl__law_any⟩) (c__law_any : PySem.W.codeIn K cd__law_any "_law_any" = true) (k__law_any : PySem.W.keepIn K (.ref f__law_any) = true)
    (a__law_bounded : PySem.W.nsIn K mainGlobals "_law_bounded" = some (some (.ref f__law_bounded))) (l__law_bounded : K.lookup f__law_bounded = some ⟨oc__law_bounded, od__law_bounded, .func (PySem.W.fnOf "_law_bounded" "_law_bounded" (defArgs s__law_bounded) (defBody s__law_bounded) (defScope s__law_bounded) .none kV__law_bounded dc__law_bounded pm__law_bounded an__law_bounded cd__law_bounded ct__law_bounded), sl__law_bounded⟩) (c__law_bounded : PySem.W.codeIn K cd__law_bounded "_law_bounded" = true) (k__law_bounded : PySem.W.keepIn K (.ref f__law_bounded) = true)
    (a__law_add : PySem.W.nsIn K mainGlobals "_law_add" = some (some (.ref f__law_add))) (l__law_add : K.lookup f__law_add = some ⟨oc__law_add, od__law_add, .func (PySem.W.fnOf "_law_add" "_law_add" (defArgs s__law_add) (defBody s__law_add) (defScope s__law_add) .none kV__law_add dc__law_add pm__law_add an__law_add cd__law_add ct__law_add), sl__law_add⟩) (c__law_add : PySem.W.codeIn K cd__law_add "_law_add" = true) (k__law_add : PySem.W.keepIn K (.ref f__law_add) = true)
    (a__law_sorts : PySem.W.nsIn K mainGlobals "_law_sorts" = some (some (.ref f__law_sorts))) (l__law_sorts : K.lookup f__law_sorts = some ⟨oc__law_sorts, od__law_sorts, .func (PySem.W.fnOf "_law_sorts" "_law_sorts" (defArgs s__law_sorts) (defBody s__law_sorts) (defScope s__law_sorts) .none kV__law_sorts dc__law_sorts pm__law_sorts an__law_sorts cd__law_sorts ct__law_sorts), sl__law_sorts⟩) (c__law_sorts : PySem.W.codeIn K cd__law_sorts "_law_sorts" = true) (k__law_sorts : PySem.W.keepIn K (.ref f__law_sorts) = true)
    (a__law_known : PySem.W.nsIn K mainGlobals "_law_known" = some (some (.ref f__law_known))) (l__law_known : K.lookup f__law_known = some ⟨oc__law_known, od__law_known, .func (PySem.W.fnOf "_law_known" "_law_known" (defArgs s__law_known) (defBody s__law_known) (defScope s__law_known) .none kV__law_known dc__law_known pm__law_known an__law_known cd__law_known ct__law_known), sl__law_known⟩) (c__law_known : PySem.W.codeIn K cd__law_known "_law_known" = true) (k__law_known : PySem.W.keepIn K (.ref f__law_known) = true)
    (a__law_some : PySem.W.nsIn K mainGlobals "_law_some" = some (some (.ref f__law_some))) (l__law_some : K.lookup f__law_some = some ⟨oc__law_some, od__law_some, .func (PySem.W.fnOf "_law_some" "_law_some" (defArgs s__law_some) (defBody s__law_some) (defScope s__law_some) .none kV__law_some dc__law_some pm__law_some an__law_some cd__law_some ct__law_some), sl__law_some⟩) (c__law_some : PySem.W.codeIn K cd__law_some "_law_some" = true) (k__law_some : PySem.W.keepIn K (.ref f__law_some) = true)
    (a__law_word : PySem.W.nsIn K mainGlobals "_law_word" = some (some (.ref f__law_word))) (l__law_word : K.lookup f__law_word = some ⟨oc__law_word, od__law_word, .func (PySem.W.fnOf "_law_word" "_law_word" (defArgs s__law_word) (defBody s__law_word) (defScope s__law_word) .none kV__law_word dc__law_word pm__law_word an__law_word cd__law_word ct__law_word), sl__law_word⟩) (c__law_word : PySem.W.codeIn K cd__law_word "_law_word" = true) (k__law_word : PySem.W.keepIn K (.ref f__law_word) = true)
    (a_law : PySem.W.nsIn K mainGlobals "law" = some (some (.ref f_law))) (l_law : K.lookup f_law = some ⟨oc_law, od_law, .func (PySem.W.fnOf "law" "law" (defArgs s_law) (defBody s_law) (defScope s_law) .none kV_law dc_law pm_law an_law cd_law ct_law), sl_law⟩) (c_law : PySem.W.codeIn K cd_law "law" = true) (k_law : PySem.W.keepIn K (.ref f_law) = true)
    (z_isinstance : PySem.W.nsIn K mainGlobals "isinstance" = some none)
    (z_int : PySem.W.nsIn K mainGlobals "int" = some none)
    (z_bool : PySem.W.nsIn K mainGlobals "bool" = some none)
    (z_str : PySem.W.nsIn K mainGlobals "str" = some none)
    (z_list : PySem.W.nsIn K mainGlobals "list" = some none)
    (z_tuple : PySem.W.nsIn K mainGlobals "tuple" = some none)
    (z_len : PySem.W.nsIn K mainGlobals "len" = some none)
    (z_abs : PySem.W.nsIn K mainGlobals "abs" = some none)
    (z_all : PySem.W.nsIn K mainGlobals "all" = some none)
    (z_sorted : PySem.W.nsIn K mainGlobals "sorted" = some none)
    (z_range : PySem.W.nsIn K mainGlobals "range" = some none)
    (z_enumerate : PySem.W.nsIn K mainGlobals "enumerate" = some none)
    (z_zip : PySem.W.nsIn K mainGlobals "zip" = some none)
    (z_min : PySem.W.nsIn K mainGlobals "min" = some none)
    (a_LEAST_WIDE : PySem.W.nsIn K mainGlobals "LEAST_WIDE" = some (some u_LEAST_WIDE)) (r_LEAST_WIDE : RelV (.int 2) u_LEAST_WIDE)
    (a_MOST_WIDE : PySem.W.nsIn K mainGlobals "MOST_WIDE" = some (some u_MOST_WIDE)) (r_MOST_WIDE : RelV (.int 5) u_MOST_WIDE)
    (a_MOST_STATES : PySem.W.nsIn K mainGlobals "MOST_STATES" = some (some u_MOST_STATES)) (r_MOST_STATES : RelV (.int 12) u_MOST_STATES)
    (a_MOST_WORD : PySem.W.nsIn K mainGlobals "MOST_WORD" = some (some u_MOST_WORD)) (r_MOST_WORD : RelV (.int 40) u_MOST_WORD)
    (a_MOST_ROW : PySem.W.nsIn K mainGlobals "MOST_ROW" = some (some u_MOST_ROW)) (r_MOST_ROW : RelV (.int 40) u_MOST_ROW)
    (a_Unfit : PySem.W.nsIn K mainGlobals "Unfit" = some (some (.ref C_Unfit))) (e_Unfit : PySem.W.excIn K C_Unfit [.type "ValueError", .type "Exception", .type "BaseException", .type "object"] "ValueError.__new__" = true) (k_Unfit : PySem.W.keepIn K (.ref C_Unfit) = true) (s_Unfit : PySem.W.subIn K (.ref C_Unfit) (.type "BaseException") = some true) (t_Unfit : PySem.W.typeIn K (.ref C_Unfit) = some (.type "type")) : Top G (clsOf K) K mg where
  blt := fun x hx => by
    simp only [G, List.mem_cons, List.mem_nil_iff, or_false] at hx
    rcases hx with rfl | rfl | rfl | rfl | rfl | rfl | rfl | rfl | rfl | rfl | rfl | rfl | rfl | rfl
    · exact PySem.W.mg_none_of X Y z_isinstance
    · exact PySem.W.mg_none_of X Y z_int
    · exact PySem.W.mg_none_of X Y z_bool
    · exact PySem.W.mg_none_of X Y z_str
    · exact PySem.W.mg_none_of X Y z_list
    · exact PySem.W.mg_none_of X Y z_tuple
    · exact PySem.W.mg_none_of X Y z_len
    · exact PySem.W.mg_none_of X Y z_abs
    · exact PySem.W.mg_none_of X Y z_all
    · exact PySem.W.mg_none_of X Y z_sorted
    · exact PySem.W.mg_none_of X Y z_range
    · exact PySem.W.mg_none_of X Y z_enumerate
    · exact PySem.W.mg_none_of X Y z_zip
    · exact PySem.W.mg_none_of X Y z_min
  fns := fun q hq => by
    simp only [G, List.mem_cons, List.mem_nil_iff, or_false] at hq
    rcases hq with rfl | rfl | rfl | rfl | rfl | rfl | rfl | rfl | rfl | rfl | rfl | rfl | rfl | rfl | rfl | rfl | rfl | rfl | rfl | rfl | rfl | rfl | rfl | rfl | rfl | rfl | rfl | rfl | rfl | rfl | rfl | rfl | rfl | rfl | rfl | rfl | rfl | rfl | rfl | rfl | rfl | rfl | rfl
    · exact ⟨_, _, PySem.W.mg_of X Y a_is_number, k_is_number, fun_mk (st := s_is_number) l_is_number c_is_number k_is_number, fun s us hl => match us, hl with | [_], _ => .of_eq rfl, fun s us hl => match us, hl with | [_], _ => .of_eq rfl⟩
    · exact ⟨_, _, PySem.W.mg_of X Y a_is_within, k_is_within, fun_mk (st := s_is_within) l_is_within c_is_within k_is_within, fun s us hl => match us, hl with | [_, _, _], _ => .of_eq rfl, fun s us hl => match us, hl with | [_, _, _], _ => .of_eq rfl⟩
    · exact ⟨_, _, PySem.W.mg_of X Y a_is_long, k_is_long, fun_mk (st := s_is_long) l_is_long c_is_long k_is_long, fun s us hl => match us, hl with | [_, _], _ => .of_eq rfl, fun s us hl => match us, hl with | [_, _], _ => .of_eq rfl⟩
    · exact ⟨_, _, PySem.W.mg_of X Y a_are_numbers, k_are_numbers, fun_mk (st := s_are_numbers) l_are_numbers c_are_numbers k_are_numbers, fun s us hl => match us, hl with | [_], _ => .of_eq rfl, fun s us hl => match us, hl with | [_], _ => .of_eq rfl⟩
    · exact ⟨_, _, PySem.W.mg_of X Y a_tupled, k_tupled, fun_mk (st := s_tupled) l_tupled c_tupled k_tupled, fun s us hl => match us, hl with | [_], _ => .of_eq rfl, fun s us hl => match us, hl with | [_], _ => .of_eq rfl⟩
    · exact ⟨_, _, PySem.W.mg_of X Y a_is_shuffle_of, k_is_shuffle_of, fun_mk (st := s_is_shuffle_of) l_is_shuffle_of c_is_shuffle_of k_is_shuffle_of, fun s us hl => match us, hl with | [_, _], _ => .of_eq rfl, fun s us hl => match us, hl with | [_, _], _ => .of_eq rfl⟩
    · exact ⟨_, _, PySem.W.mg_of X Y a_is_state_of, k_is_state_of, fun_mk (st := s_is_state_of) l_is_state_of c_is_state_of k_is_state_of, fun s us hl => match us, hl with | [_, _, _], _ => .of_eq rfl, fun s us hl => match us, hl with | [_, _, _], _ => .of_eq rfl⟩
    · exact ⟨_, _, PySem.W.mg_of X Y a_is_machine_in, k_is_machine_in, fun_mk (st := s_is_machine_in) l_is_machine_in c_is_machine_in k_is_machine_in, fun s us hl => match us, hl with | [_], _ => .of_eq rfl, fun s us hl => match us, hl with | [_], _ => .of_eq rfl⟩
    · exact ⟨_, _, PySem.W.mg_of X Y a_sure_machine, k_sure_machine, fun_mk (st := s_sure_machine) l_sure_machine c_sure_machine k_sure_machine, fun s us hl => match us, hl with | [_], _ => .of_eq rfl, fun s us hl => match us, hl with | [_], _ => .of_eq rfl⟩
    · exact ⟨_, _, PySem.W.mg_of X Y a_is_word_of, k_is_word_of, fun_mk (st := s_is_word_of) l_is_word_of c_is_word_of k_is_word_of, fun s us hl => match us, hl with | [_, _], _ => .of_eq rfl, fun s us hl => match us, hl with | [_, _], _ => .of_eq rfl⟩
    · exact ⟨_, _, PySem.W.mg_of X Y a_sure_word, k_sure_word, fun_mk (st := s_sure_word) l_sure_word c_sure_word k_sure_word, fun s us hl => match us, hl with | [_, _], _ => .of_eq rfl, fun s us hl => match us, hl with | [_, _], _ => .of_eq rfl⟩
    · exact ⟨_, _, PySem.W.mg_of X Y a_is_row_of, k_is_row_of, fun_mk (st := s_is_row_of) l_is_row_of c_is_row_of k_is_row_of, fun s us hl => match us, hl with | [_, _], _ => .of_eq rfl, fun s us hl => match us, hl with | [_, _], _ => .of_eq rfl⟩
    · exact ⟨_, _, PySem.W.mg_of X Y a_sure_row, k_sure_row, fun_mk (st := s_sure_row) l_sure_row c_sure_row k_sure_row, fun s us hl => match us, hl with | [_, _], _ => .of_eq rfl, fun s us hl => match us, hl with | [_, _], _ => .of_eq rfl⟩
    · exact ⟨_, _, PySem.W.mg_of X Y a_short_in, k_short_in, fun_mk (st := s_short_in) l_short_in c_short_in k_short_in, fun s us hl => match us, hl with | [_], _ => .of_eq rfl, fun s us hl => match us, hl with | [_], _ => .of_eq rfl⟩
    · exact ⟨_, _, PySem.W.mg_of X Y a_back_in, k_back_in, fun_mk (st := s_back_in) l_back_in c_back_in k_back_in, fun s us hl => match us, hl with | [_], _ => .of_eq rfl, fun s us hl => match us, hl with | [_], _ => .of_eq rfl⟩
    · exact ⟨_, _, PySem.W.mg_of X Y a_step_in, k_step_in, fun_mk (st := s_step_in) l_step_in c_step_in k_step_in, fun s us hl => match us, hl with | [_, _, _], _ => .of_eq rfl, fun s us hl => match us, hl with | [_, _, _], _ => .of_eq rfl⟩
    · exact ⟨_, _, PySem.W.mg_of X Y a_led_in, k_led_in, fun_mk (st := s_led_in) l_led_in c_led_in k_led_in, fun s us hl => match us, hl with | [_, _, _], _ => .of_eq rfl, fun s us hl => match us, hl with | [_, _, _], _ => .of_eq rfl⟩
    · exact ⟨_, _, PySem.W.mg_of X Y a_shortened, k_shortened, fun_mk (st := s_shortened) l_shortened c_shortened k_shortened, fun s us hl => match us, hl with | [_, _], _ => .of_eq rfl, fun s us hl => match us, hl with | [_, _], _ => .of_eq rfl⟩
    · exact ⟨_, _, PySem.W.mg_of X Y a_word_back, k_word_back, fun_mk (st := s_word_back) l_word_back c_word_back k_word_back, fun s us hl => match us, hl with | [_, _], _ => .of_eq rfl, fun s us hl => match us, hl with | [_, _], _ => .of_eq rfl⟩
    · exact ⟨_, _, PySem.W.mg_of X Y a_row_led, k_row_led, fun_mk (st := s_row_led) l_row_led c_row_led k_row_led, fun s us hl => match us, hl with | [_, _, _], _ => .of_eq rfl, fun s us hl => match us, hl with | [_, _, _], _ => .of_eq rfl⟩
    · exact ⟨_, _, PySem.W.mg_of X Y a_part_at, k_part_at, fun_mk (st := s_part_at) l_part_at c_part_at k_part_at, fun s us hl => match us, hl with | [_, _, _], _ => .of_eq rfl, fun s us hl => match us, hl with | [_, _, _], _ => .of_eq rfl⟩
    · exact ⟨_, _, PySem.W.mg_of X Y a_joined, k_joined, fun_mk (st := s_joined) l_joined c_joined k_joined, fun s us hl => match us, hl with | [_, _, _], _ => .of_eq rfl, fun s us hl => match us, hl with | [_, _, _], _ => .of_eq rfl⟩
    · exact ⟨_, _, PySem.W.mg_of X Y a__law_box, k__law_box, fun_mk (st := s__law_box) l__law_box c__law_box k__law_box, fun s us hl => match us, hl with | [_, _], _ => .of_eq rfl, fun s us hl => match us, hl with | [_, _], _ => .of_eq rfl⟩
    · exact ⟨_, _, PySem.W.mg_of X Y a__law_take, k__law_take, fun_mk (st := s__law_take) l__law_take c__law_take k__law_take, fun s us hl => match us, hl with | [_, _], _ => .of_eq rfl, fun s us hl => match us, hl with | [_, _], _ => .of_eq rfl⟩
    · exact ⟨_, _, PySem.W.mg_of X Y a__law_cells, k__law_cells, fun_mk (st := s__law_cells) l__law_cells c__law_cells k__law_cells, fun s us hl => match us, hl with | [_, _], _ => .of_eq rfl, fun s us hl => match us, hl with | [_, _], _ => .of_eq rfl⟩
    · exact ⟨_, _, PySem.W.mg_of X Y a__law_of, k__law_of, fun_mk (st := s__law_of) l__law_of c__law_of k__law_of, fun s us hl => match us, hl with | [_, _], _ => .of_eq rfl, fun s us hl => match us, hl with | [_, _], _ => .of_eq rfl⟩
    · exact ⟨_, _, PySem.W.mg_of X Y a__law_pick, k__law_pick, fun_mk (st := s__law_pick) l__law_pick c__law_pick k__law_pick, fun s us hl => match us, hl with | [_, _, _], _ => .of_eq rfl, fun s us hl => match us, hl with | [_, _, _], _ => .of_eq rfl⟩
    · exact ⟨_, _, PySem.W.mg_of X Y a__law_same, k__law_same, fun_mk (st := s__law_same) l__law_same c__law_same k__law_same, fun s us hl => match us, hl with | [_, _], _ => .of_eq rfl, fun s us hl => match us, hl with | [_, _], _ => .of_eq rfl⟩
    · exact ⟨_, _, PySem.W.mg_of X Y a__law_flat, k__law_flat, fun_mk (st := s__law_flat) l__law_flat c__law_flat k__law_flat, fun s us hl => match us, hl with | [_], _ => .of_eq rfl, fun s us hl => match us, hl with | [_], _ => .of_eq rfl⟩
    · exact ⟨_, _, PySem.W.mg_of X Y a__law_short, k__law_short, fun_mk (st := s__law_short) l__law_short c__law_short k__law_short, fun s us hl => match us, hl with | [_], _ => .of_eq rfl, fun s us hl => match us, hl with | [_], _ => .of_eq rfl⟩
    · exact ⟨_, _, PySem.W.mg_of X Y a__law_back, k__law_back, fun_mk (st := s__law_back) l__law_back c__law_back k__law_back, fun s us hl => match us, hl with | [_], _ => .of_eq rfl, fun s us hl => match us, hl with | [_], _ => .of_eq rfl⟩
    · exact ⟨_, _, PySem.W.mg_of X Y a__law_one, k__law_one, fun_mk (st := s__law_one) l__law_one c__law_one k__law_one, fun s us hl => match us, hl with | [_, _, _], _ => .of_eq rfl, fun s us hl => match us, hl with | [_, _, _], _ => .of_eq rfl⟩
    · exact ⟨_, _, PySem.W.mg_of X Y a__law_led, k__law_led, fun_mk (st := s__law_led) l__law_led c__law_led k__law_led, fun s us hl => match us, hl with | [_, _, _], _ => .of_eq rfl, fun s us hl => match us, hl with | [_, _, _], _ => .of_eq rfl⟩
    · exact ⟨_, _, PySem.W.mg_of X Y a__law_rows, k__law_rows, fun_mk (st := s__law_rows) l__law_rows c__law_rows k__law_rows, fun s us hl => match us, hl with | [_, _], _ => .of_eq rfl, fun s us hl => match us, hl with | [_, _], _ => .of_eq rfl⟩
    · exact ⟨_, _, PySem.W.mg_of X Y a__law_shuffle, k__law_shuffle, fun_mk (st := s__law_shuffle) l__law_shuffle c__law_shuffle k__law_shuffle, fun s us hl => match us, hl with | [_, _], _ => .of_eq rfl, fun s us hl => match us, hl with | [_, _], _ => .of_eq rfl⟩
    · exact ⟨_, _, PySem.W.mg_of X Y a__law_any, k__law_any, fun_mk (st := s__law_any) l__law_any c__law_any k__law_any, fun s us hl => match us, hl with | [_, _, _], _ => .of_eq rfl, fun s us hl => match us, hl with | [_, _, _], _ => .of_eq rfl⟩
    · exact ⟨_, _, PySem.W.mg_of X Y a__law_bounded, k__law_bounded, fun_mk (st := s__law_bounded) l__law_bounded c__law_bounded k__law_bounded, fun s us hl => match us, hl with | [_, _], _ => .of_eq rfl, fun s us hl => match us, hl with | [_, _], _ => .of_eq rfl⟩
    · exact ⟨_, _, PySem.W.mg_of X Y a__law_add, k__law_add, fun_mk (st := s__law_add) l__law_add c__law_add k__law_add, fun s us hl => match us, hl with | [_], _ => .of_eq rfl, fun s us hl => match us, hl with | [_], _ => .of_eq rfl⟩
    · exact ⟨_, _, PySem.W.mg_of X Y a__law_sorts, k__law_sorts, fun_mk (st := s__law_sorts) l__law_sorts c__law_sorts k__law_sorts, fun s us hl => match us, hl with | [], _ => .of_eq rfl, fun s us hl => match us, hl with | [], _ => .of_eq rfl⟩
    · exact ⟨_, _, PySem.W.mg_of X Y a__law_known, k__law_known, fun_mk (st := s__law_known) l__law_known c__law_known k__law_known, fun s us hl => match us, hl with | [], _ => .of_eq rfl, fun s us hl => match us, hl with | [], _ => .of_eq rfl⟩
    · exact ⟨_, _, PySem.W.mg_of X Y a__law_some, k__law_some, fun_mk (st := s__law_some) l__law_some c__law_some k__law_some, fun s us hl => match us, hl with | [_], _ => .of_eq rfl, fun s us hl => match us, hl with | [_], _ => .of_eq rfl⟩
    · exact ⟨_, _, PySem.W.mg_of X Y a__law_word, k__law_word, fun_mk (st := s__law_word) l__law_word c__law_word k__law_word, fun s us hl => match us, hl with | [_, _, _], _ => .of_eq rfl, fun s us hl => match us, hl with | [_, _, _], _ => .of_eq rfl⟩
    · exact ⟨_, _, PySem.W.mg_of X Y a_law, k_law, fun_mk (st := s_law) l_law c_law k_law, fun s us hl => match us, hl with | [_], _ => .of_eq rfl, fun s us hl => match us, hl with | [_], _ => .of_eq rfl⟩
  con := fun q hq => by
    simp only [G, List.mem_cons, List.mem_nil_iff, or_false] at hq
    rcases hq with rfl | rfl | rfl | rfl | rfl
    · exact ⟨_, _, PySem.W.mg_of X Y a_LEAST_WIDE, r_LEAST_WIDE, fun _ => by constructor⟩
    · exact ⟨_, _, PySem.W.mg_of X Y a_MOST_WIDE, r_MOST_WIDE, fun _ => by constructor⟩
    · exact ⟨_, _, PySem.W.mg_of X Y a_MOST_STATES, r_MOST_STATES, fun _ => by constructor⟩
    · exact ⟨_, _, PySem.W.mg_of X Y a_MOST_WORD, r_MOST_WORD, fun _ => by constructor⟩
    · exact ⟨_, _, PySem.W.mg_of X Y a_MOST_ROW, r_MOST_ROW, fun _ => by constructor⟩
  exs := fun q hq => by
    simp only [G, List.mem_cons, List.mem_nil_iff, or_false] at hq
    rcases hq with rfl
    · exact ⟨_, PySem.W.mg_of X Y a_Unfit, ⟨⟨_, _, _, _, PySem.F.excBase_ValueError, e_Unfit⟩, k_Unfit, s_Unfit, t_Unfit⟩, clsOf_ok a_Unfit⟩
end K02
end T_K02
section T_K02P
set_option maxHeartbeats 4000000
namespace K02
open PySem Wk
theorem STup_le {n m : Nat} {F : FnV} (h : STup n F) (hl : m ≤ n) : STup m F := fun d hd => h d (fit_le hd hl)
theorem SSame_le {n m : Nat} {F : FnV} (h : SSame n F) (hl : m ≤ n) : SSame m F := fun d hd => h d (fit_le hd hl)
theorem SSameB_le {n m : Nat} {F : FnV} (h : SSameB n F) (hl : m ≤ n) : SSameB m F := fun xs hd => h xs (fit_le hd hl)
theorem SLst_le {n m : Nat} {F : FnV} (h : SLst n F) (hl : m ≤ n) : SLst m F := fun d hd => h d (fit_le hd hl)
def findD (s : String) : List Df → Option (Df × List Df)
  | [] => none
  | d :: ds => if s = d.key then some (d, ds) else findD s ds
theorem lay_find {s : String} : ∀ {ds : List Df} {d : Df} {r : List Df}, findD s ds = some (d, r) → lay G ds s = d.val G (lay G r)
  | [], _, _, h => by cases h
  | e :: ds, d, r, h => by
    unfold findD at h
    unfold lay
    split at h
    · rename_i c
      cases h
      rw [if_pos c]
    · rename_i c
      rw [if_neg c]
      exact lay_find h
theorem body_is_number : d_is_number.body G = t_is_number := by kernel_rfl
theorem val_is_number (Φ : Fns) : d_is_number.val G Φ = fnV Φ 1 0 [0] t_is_number := by unfold Df.val; rw [body_is_number]; rfl
theorem S_is_number : SNum (d_is_number.val G (lay G D0)) := by
  rw [val_is_number]
  exact fun d h => v_is_number h
theorem body_is_within : d_is_within.body G = t_is_within := by kernel_rfl
theorem val_is_within (Φ : Fns) : d_is_within.val G Φ = fnV Φ 3 0 [0, 1, 2] t_is_within := by unfold Df.val; rw [body_is_within]; rfl
theorem S_is_within : SWithin (d_is_within.val G (lay G D1)) := by
  have h_is_number : SNum (lay G D1 "is_number") := by
    rw [lay_find (show findD "is_number" D1 = some (d_is_number, D0) by kernel_rfl)]
    exact S_is_number
  rw [val_is_within]
  exact v_is_within h_is_number
theorem body_is_long : d_is_long.body G = t_is_long := by kernel_rfl
theorem val_is_long (Φ : Fns) : d_is_long.val G Φ = fnV Φ 2 0 [0, 1] t_is_long := by unfold Df.val; rw [body_is_long]; rfl
theorem S_is_long : SLong (d_is_long.val G (lay G D2)) := by
  rw [val_is_long]
  exact v_is_long
theorem body_are_numbers : d_are_numbers.body G = t_are_numbers := by kernel_rfl
theorem val_are_numbers (Φ : Fns) : d_are_numbers.val G Φ = fnV Φ 1 1 [0] t_are_numbers := by unfold Df.val; rw [body_are_numbers]; rfl
theorem S_are_numbers : SNums (d_are_numbers.val G (lay G D3)) := by
  have h_is_number : SNum (lay G D3 "is_number") := by
    rw [lay_find (show findD "is_number" D3 = some (d_is_number, D0) by kernel_rfl)]
    exact S_is_number
  rw [val_are_numbers]
  exact v_are_numbers h_is_number
theorem body_tupled : d_tupled.body G = t_tupled := by kernel_rfl
theorem val_tupled (Φ : Fns) : d_tupled.val G Φ = fnV Φ 1 1 [0] t_tupled := by unfold Df.val; rw [body_tupled]; rfl
theorem tup_n : ∀ n : Nat, STup n (d_tupled.val G (lay G (List.replicate n d_tupled ++ D4)))
  | 0 => by rw [val_tupled]; exact v_tupled0
  | n + 1 => by
    rw [val_tupled]
    refine v_tupled ?_
    have e : lay G (List.replicate (n + 1) d_tupled ++ D4) "tupled" = d_tupled.val G (lay G (List.replicate n d_tupled ++ D4)) := lay_find rfl
    rw [e]
    exact tup_n n
theorem S_tupled : STup 7 (d_tupled.val G (lay G (List.replicate 7 d_tupled ++ D4))) := tup_n 7
theorem body_is_shuffle_of : d_is_shuffle_of.body G = t_is_shuffle_of := by kernel_rfl
theorem val_is_shuffle_of (Φ : Fns) : d_is_shuffle_of.val G Φ = fnV Φ 2 0 [0, 1] t_is_shuffle_of := by unfold Df.val; rw [body_is_shuffle_of]; rfl
theorem S_is_shuffle_of : SShuf (d_is_shuffle_of.val G (lay G D5)) := by
  have h_is_long : SLong (lay G D5 "is_long") := by
    rw [lay_find (show findD "is_long" D5 = some (d_is_long, D2) by kernel_rfl)]
    exact S_is_long
  have h_are_numbers : SNums (lay G D5 "are_numbers") := by
    rw [lay_find (show findD "are_numbers" D5 = some (d_are_numbers, D3) by kernel_rfl)]
    exact S_are_numbers
  rw [val_is_shuffle_of]
  exact v_is_shuffle_of h_is_long h_are_numbers
theorem body_is_state_of : d_is_state_of.body G = t_is_state_of := by kernel_rfl
theorem val_is_state_of (Φ : Fns) : d_is_state_of.val G Φ = fnV Φ 3 1 [0, 1, 2] t_is_state_of := by unfold Df.val; rw [body_is_state_of]; rfl
theorem S_is_state_of : SState (d_is_state_of.val G (lay G D6)) := by
  have h_is_long : SLong (lay G D6 "is_long") := by
    rw [lay_find (show findD "is_long" D6 = some (d_is_long, D2) by kernel_rfl)]
    exact S_is_long
  have h_is_shuffle_of : SShuf (lay G D6 "is_shuffle_of") := by
    rw [lay_find (show findD "is_shuffle_of" D6 = some (d_is_shuffle_of, D5) by kernel_rfl)]
    exact S_is_shuffle_of
  have h_is_within : SWithin (lay G D6 "is_within") := by
    rw [lay_find (show findD "is_within" D6 = some (d_is_within, D1) by kernel_rfl)]
    exact S_is_within
  rw [val_is_state_of]
  exact v_is_state_of h_is_long h_is_shuffle_of h_is_within
theorem body_is_machine_in : d_is_machine_in.body G = t_is_machine_in := by kernel_rfl
theorem val_is_machine_in (Φ : Fns) : d_is_machine_in.val G Φ = fnV Φ 1 2 [0] t_is_machine_in := by unfold Df.val; rw [body_is_machine_in]; rfl
theorem S_is_machine_in : SMach (d_is_machine_in.val G (lay G D7)) := by
  have h_is_long : SLong (lay G D7 "is_long") := by
    rw [lay_find (show findD "is_long" D7 = some (d_is_long, D2) by kernel_rfl)]
    exact S_is_long
  have h_is_within : SWithin (lay G D7 "is_within") := by
    rw [lay_find (show findD "is_within" D7 = some (d_is_within, D1) by kernel_rfl)]
    exact S_is_within
  have h_is_state_of : SState (lay G D7 "is_state_of") := by
    rw [lay_find (show findD "is_state_of" D7 = some (d_is_state_of, D6) by kernel_rfl)]
    exact S_is_state_of
  rw [val_is_machine_in]
  exact v_is_machine_in h_is_long h_is_within h_is_state_of
theorem body_sure_machine : d_sure_machine.body G = t_sure_machine := by kernel_rfl
theorem val_sure_machine (Φ : Fns) : d_sure_machine.val G Φ = fnV Φ 1 1 [0] t_sure_machine := by unfold Df.val; rw [body_sure_machine]; rfl
theorem S_sure_machine : SSureM (d_sure_machine.val G (lay G D8)) := by
  have h_tupled : STup 7 (lay G D8 "tupled") := by
    rw [lay_find (show findD "tupled" D8 = some (d_tupled, (List.replicate 7 d_tupled ++ D4)) by kernel_rfl)]
    exact S_tupled
  have h_is_machine_in : SMach (lay G D8 "is_machine_in") := by
    rw [lay_find (show findD "is_machine_in" D8 = some (d_is_machine_in, D7) by kernel_rfl)]
    exact S_is_machine_in
  rw [val_sure_machine]
  exact v_sure_machine (STup_le h_tupled (by decide)) h_is_machine_in
theorem body_is_word_of : d_is_word_of.body G = t_is_word_of := by kernel_rfl
theorem val_is_word_of (Φ : Fns) : d_is_word_of.val G Φ = fnV Φ 2 2 [0, 1] t_is_word_of := by unfold Df.val; rw [body_is_word_of]; rfl
theorem S_is_word_of : SWordOf (d_is_word_of.val G (lay G D9)) := by
  have h_are_numbers : SNums (lay G D9 "are_numbers") := by
    rw [lay_find (show findD "are_numbers" D9 = some (d_are_numbers, D3) by kernel_rfl)]
    exact S_are_numbers
  rw [val_is_word_of]
  exact v_is_word_of h_are_numbers
theorem body_sure_word : d_sure_word.body G = t_sure_word := by kernel_rfl
theorem val_sure_word (Φ : Fns) : d_sure_word.val G Φ = fnV Φ 2 1 [0, 1] t_sure_word := by unfold Df.val; rw [body_sure_word]; rfl
theorem S_sure_word : SSureW (d_sure_word.val G (lay G D10)) := by
  have h_tupled : STup 7 (lay G D10 "tupled") := by
    rw [lay_find (show findD "tupled" D10 = some (d_tupled, (List.replicate 7 d_tupled ++ D4)) by kernel_rfl)]
    exact S_tupled
  have h_is_word_of : SWordOf (lay G D10 "is_word_of") := by
    rw [lay_find (show findD "is_word_of" D10 = some (d_is_word_of, D9) by kernel_rfl)]
    exact S_is_word_of
  rw [val_sure_word]
  exact v_sure_word (STup_le h_tupled (by decide)) h_is_word_of
theorem body_is_row_of : d_is_row_of.body G = t_is_row_of := by kernel_rfl
theorem val_is_row_of (Φ : Fns) : d_is_row_of.val G Φ = fnV Φ 2 1 [0, 1] t_is_row_of := by unfold Df.val; rw [body_is_row_of]; rfl
theorem S_is_row_of : SRow (d_is_row_of.val G (lay G D11)) := by
  have h_is_within : SWithin (lay G D11 "is_within") := by
    rw [lay_find (show findD "is_within" D11 = some (d_is_within, D1) by kernel_rfl)]
    exact S_is_within
  rw [val_is_row_of]
  exact v_is_row_of h_is_within
theorem body_sure_row : d_sure_row.body G = t_sure_row := by kernel_rfl
theorem val_sure_row (Φ : Fns) : d_sure_row.val G Φ = fnV Φ 2 1 [0, 1] t_sure_row := by unfold Df.val; rw [body_sure_row]; rfl
theorem S_sure_row : SSureR (d_sure_row.val G (lay G D12)) := by
  have h_tupled : STup 7 (lay G D12 "tupled") := by
    rw [lay_find (show findD "tupled" D12 = some (d_tupled, (List.replicate 7 d_tupled ++ D4)) by kernel_rfl)]
    exact S_tupled
  have h_is_row_of : SRow (lay G D12 "is_row_of") := by
    rw [lay_find (show findD "is_row_of" D12 = some (d_is_row_of, D11) by kernel_rfl)]
    exact S_is_row_of
  rw [val_sure_row]
  exact v_sure_row (STup_le h_tupled (by decide)) h_is_row_of
theorem body_short_in : d_short_in.body G = t_short_in := by kernel_rfl
theorem val_short_in (Φ : Fns) : d_short_in.val G Φ = fnV Φ 1 2 [0] t_short_in := by unfold Df.val; rw [body_short_in]; rfl
theorem S_short_in : SShort (d_short_in.val G (lay G D13)) := by
  rw [val_short_in]
  exact v_short_in
theorem body_back_in : d_back_in.body G = t_back_in := by kernel_rfl
theorem val_back_in (Φ : Fns) : d_back_in.val G Φ = fnV Φ 1 1 [0] t_back_in := by unfold Df.val; rw [body_back_in]; rfl
theorem S_back_in : SBack (d_back_in.val G (lay G D14)) := by
  rw [val_back_in]
  exact v_back_in
theorem body_step_in : d_step_in.body G = t_step_in := by kernel_rfl
theorem val_step_in (Φ : Fns) : d_step_in.val G Φ = fnV Φ 3 4 [0, 1] t_step_in := by unfold Df.val; rw [body_step_in]; rfl
theorem S_step_in : SStep (d_step_in.val G (lay G D15)) := by
  have h_short_in : SShort (lay G D15 "short_in") := by
    rw [lay_find (show findD "short_in" D15 = some (d_short_in, D13) by kernel_rfl)]
    exact S_short_in
  rw [val_step_in]
  exact v_step_in h_short_in
theorem body_led_in : d_led_in.body G = t_led_in := by kernel_rfl
theorem val_led_in (Φ : Fns) : d_led_in.val G Φ = fnV Φ 3 4 [0, 1, 2] t_led_in := by unfold Df.val; rw [body_led_in]; rfl
theorem S_led_in : SLed (d_led_in.val G (lay G D16)) := by
  have h_short_in : SShort (lay G D16 "short_in") := by
    rw [lay_find (show findD "short_in" D16 = some (d_short_in, D13) by kernel_rfl)]
    exact S_short_in
  have h_step_in : SStep (lay G D16 "step_in") := by
    rw [lay_find (show findD "step_in" D16 = some (d_step_in, D15) by kernel_rfl)]
    exact S_step_in
  rw [val_led_in]
  exact v_led_in h_short_in h_step_in
theorem body_shortened : d_shortened.body G = t_shortened := by kernel_rfl
theorem val_shortened (Φ : Fns) : d_shortened.val G Φ = fnV Φ 2 1 [0, 1] t_shortened := by unfold Df.val; rw [body_shortened]; rfl
theorem S_shortened : SShortened (d_shortened.val G (lay G D17)) := by
  have h_sure_machine : SSureM (lay G D17 "sure_machine") := by
    rw [lay_find (show findD "sure_machine" D17 = some (d_sure_machine, D8) by kernel_rfl)]
    exact S_sure_machine
  have h_sure_word : SSureW (lay G D17 "sure_word") := by
    rw [lay_find (show findD "sure_word" D17 = some (d_sure_word, D10) by kernel_rfl)]
    exact S_sure_word
  have h_short_in : SShort (lay G D17 "short_in") := by
    rw [lay_find (show findD "short_in" D17 = some (d_short_in, D13) by kernel_rfl)]
    exact S_short_in
  rw [val_shortened]
  exact v_shortened h_sure_machine h_sure_word h_short_in
theorem body_word_back : d_word_back.body G = t_word_back := by kernel_rfl
theorem val_word_back (Φ : Fns) : d_word_back.val G Φ = fnV Φ 2 1 [0, 1] t_word_back := by unfold Df.val; rw [body_word_back]; rfl
theorem S_word_back : SWordBack (d_word_back.val G (lay G D18)) := by
  have h_sure_machine : SSureM (lay G D18 "sure_machine") := by
    rw [lay_find (show findD "sure_machine" D18 = some (d_sure_machine, D8) by kernel_rfl)]
    exact S_sure_machine
  have h_sure_word : SSureW (lay G D18 "sure_word") := by
    rw [lay_find (show findD "sure_word" D18 = some (d_sure_word, D10) by kernel_rfl)]
    exact S_sure_word
  have h_back_in : SBack (lay G D18 "back_in") := by
    rw [lay_find (show findD "back_in" D18 = some (d_back_in, D14) by kernel_rfl)]
    exact S_back_in
  rw [val_word_back]
  exact v_word_back h_sure_machine h_sure_word h_back_in
theorem body_row_led : d_row_led.body G = t_row_led := by kernel_rfl
theorem val_row_led (Φ : Fns) : d_row_led.val G Φ = fnV Φ 3 2 [0, 1, 2] t_row_led := by unfold Df.val; rw [body_row_led]; rfl
theorem S_row_led : SRowLed (d_row_led.val G (lay G D19)) := by
  have h_sure_machine : SSureM (lay G D19 "sure_machine") := by
    rw [lay_find (show findD "sure_machine" D19 = some (d_sure_machine, D8) by kernel_rfl)]
    exact S_sure_machine
  have h_sure_word : SSureW (lay G D19 "sure_word") := by
    rw [lay_find (show findD "sure_word" D19 = some (d_sure_word, D10) by kernel_rfl)]
    exact S_sure_word
  have h_sure_row : SSureR (lay G D19 "sure_row") := by
    rw [lay_find (show findD "sure_row" D19 = some (d_sure_row, D12) by kernel_rfl)]
    exact S_sure_row
  have h_led_in : SLed (lay G D19 "led_in") := by
    rw [lay_find (show findD "led_in" D19 = some (d_led_in, D16) by kernel_rfl)]
    exact S_led_in
  rw [val_row_led]
  exact v_row_led h_sure_machine h_sure_word h_sure_row h_led_in
theorem body_part_at : d_part_at.body G = t_part_at := by kernel_rfl
theorem val_part_at (Φ : Fns) : d_part_at.val G Φ = fnV Φ 3 2 [0, 1, 2] t_part_at := by unfold Df.val; rw [body_part_at]; rfl
theorem S_part_at : SPartAt (d_part_at.val G (lay G D20)) := by
  have h_sure_machine : SSureM (lay G D20 "sure_machine") := by
    rw [lay_find (show findD "sure_machine" D20 = some (d_sure_machine, D8) by kernel_rfl)]
    exact S_sure_machine
  have h_sure_word : SSureW (lay G D20 "sure_word") := by
    rw [lay_find (show findD "sure_word" D20 = some (d_sure_word, D10) by kernel_rfl)]
    exact S_sure_word
  have h_sure_row : SSureR (lay G D20 "sure_row") := by
    rw [lay_find (show findD "sure_row" D20 = some (d_sure_row, D12) by kernel_rfl)]
    exact S_sure_row
  have h_led_in : SLed (lay G D20 "led_in") := by
    rw [lay_find (show findD "led_in" D20 = some (d_led_in, D16) by kernel_rfl)]
    exact S_led_in
  rw [val_part_at]
  exact v_part_at h_sure_machine h_sure_word h_sure_row h_led_in
theorem body_joined : d_joined.body G = t_joined := by kernel_rfl
theorem val_joined (Φ : Fns) : d_joined.val G Φ = fnV Φ 3 2 [0, 1, 2] t_joined := by unfold Df.val; rw [body_joined]; rfl
theorem S_joined : SJoined (d_joined.val G (lay G D21)) := by
  have h_sure_machine : SSureM (lay G D21 "sure_machine") := by
    rw [lay_find (show findD "sure_machine" D21 = some (d_sure_machine, D8) by kernel_rfl)]
    exact S_sure_machine
  have h_sure_word : SSureW (lay G D21 "sure_word") := by
    rw [lay_find (show findD "sure_word" D21 = some (d_sure_word, D10) by kernel_rfl)]
    exact S_sure_word
  have h_short_in : SShort (lay G D21 "short_in") := by
    rw [lay_find (show findD "short_in" D21 = some (d_short_in, D13) by kernel_rfl)]
    exact S_short_in
  rw [val_joined]
  exact v_joined h_sure_machine h_sure_word h_short_in
theorem body__law_box : d__law_box.body G = t__law_box := by kernel_rfl
theorem val__law_box (Φ : Fns) : d__law_box.val G Φ = fnV Φ 2 1 [0, 1] t__law_box := by unfold Df.val; rw [body__law_box]; rfl
theorem S__law_box : SBox (d__law_box.val G (lay G D22)) := by
  rw [val__law_box]
  exact v_law_box
theorem body__law_take : d__law_take.body G = t__law_take := by kernel_rfl
theorem val__law_take (Φ : Fns) : d__law_take.val G Φ = fnV Φ 2 4 [0, 1] t__law_take := by unfold Df.val; rw [body__law_take]; rfl
theorem S__law_take : STake (d__law_take.val G (lay G D23)) := by
  rw [val__law_take]
  exact v_law_take
theorem body__law_cells : d__law_cells.body G = t__law_cells := by kernel_rfl
theorem val__law_cells (Φ : Fns) : d__law_cells.val G Φ = fnV Φ 2 4 [0, 1] t__law_cells := by unfold Df.val; rw [body__law_cells]; rfl
theorem S__law_cells : SCells 1 (d__law_cells.val G (lay G D24)) := by
  rw [val__law_cells]
  exact v_law_cells (by decide) (by decide)
theorem body__law_of : d__law_of.body G = t__law_of := by kernel_rfl
theorem val__law_of (Φ : Fns) : d__law_of.val G Φ = fnV Φ 2 0 [0, 1] t__law_of := by unfold Df.val; rw [body__law_of]; rfl
theorem S__law_of : SOf (d__law_of.val G (lay G D25)) := by
  have h__law_take : STake (lay G D25 "_law_take") := by
    rw [lay_find (show findD "_law_take" D25 = some (d__law_take, D23) by kernel_rfl)]
    exact S__law_take
  rw [val__law_of]
  exact v_law_of h__law_take
theorem body__law_pick : d__law_pick.body G = t__law_pick := by kernel_rfl
theorem val__law_pick (Φ : Fns) : d__law_pick.val G Φ = fnV Φ 3 3 [0, 1, 2] t__law_pick := by unfold Df.val; rw [body__law_pick]; rfl
theorem S__law_pick : SPick (d__law_pick.val G (lay G D26)) := by
  have h__law_take : STake (lay G D26 "_law_take") := by
    rw [lay_find (show findD "_law_take" D26 = some (d__law_take, D23) by kernel_rfl)]
    exact S__law_take
  rw [val__law_pick]
  exact v_law_pick h__law_take
theorem body__law_same : d__law_same.body G = t__law_same := by kernel_rfl
theorem val__law_same (Φ : Fns) : d__law_same.val G Φ = fnV Φ 2 2 [0, 1] t__law_same := by unfold Df.val; rw [body__law_same]; rfl
theorem same_n : ∀ n : Nat, n ≤ 60 → SSame n (d__law_same.val G (lay G (List.replicate n d__law_same ++ D27)))
  | 0, _ => by rw [val__law_same]; exact v_law_same0
  | n + 1, h => by
    rw [val__law_same]
    refine v_law_same (by omega) ?_
    have e : lay G (List.replicate (n + 1) d__law_same ++ D27) "_law_same" = d__law_same.val G (lay G (List.replicate n d__law_same ++ D27)) := lay_find rfl
    rw [e]
    exact same_n n (by omega)
theorem sameB_7 : SSameB 7 (d__law_same.val G (lay G (List.replicate 7 d__law_same ++ D27))) := by
  intro xs h
  rw [val__law_same]
  refine v_law_sameB (n := 6) ?_ h
  have e : lay G (List.replicate 7 d__law_same ++ D27) "_law_same" = d__law_same.val G (lay G (List.replicate 6 d__law_same ++ D27)) := lay_find rfl
  rw [e]
  exact same_n 6 (by decide)
theorem S__law_same : SSame 7 (d__law_same.val G (lay G (List.replicate 7 d__law_same ++ D27))) := same_n 7 (by decide)
theorem body__law_flat : d__law_flat.body G = t__law_flat := by kernel_rfl
theorem val__law_flat (Φ : Fns) : d__law_flat.val G Φ = fnV Φ 1 2 [0] t__law_flat := by unfold Df.val; rw [body__law_flat]; rfl
theorem S__law_flat : SFlat (d__law_flat.val G (lay G D28)) := by
  rw [val__law_flat]
  exact v_law_flat
theorem body__law_short : d__law_short.body G = t__law_short := by kernel_rfl
theorem val__law_short (Φ : Fns) : d__law_short.val G Φ = fnV Φ 1 2 [0] t__law_short := by unfold Df.val; rw [body__law_short]; rfl
theorem S__law_short : SShort (d__law_short.val G (lay G D29)) := by
  rw [val__law_short]
  exact v_law_short
theorem body__law_back : d__law_back.body G = t__law_back := by kernel_rfl
theorem val__law_back (Φ : Fns) : d__law_back.val G Φ = fnV Φ 1 1 [0] t__law_back := by unfold Df.val; rw [body__law_back]; rfl
theorem S__law_back : SBack (d__law_back.val G (lay G D30)) := by
  rw [val__law_back]
  exact v_law_back
theorem body__law_one : d__law_one.body G = t__law_one := by kernel_rfl
theorem val__law_one (Φ : Fns) : d__law_one.val G Φ = fnV Φ 3 3 [0, 1, 2] t__law_one := by unfold Df.val; rw [body__law_one]; rfl
theorem S__law_one : SOne (d__law_one.val G (lay G D31)) := by
  rw [val__law_one]
  exact v_law_one
theorem body__law_led : d__law_led.body G = t__law_led := by kernel_rfl
theorem val__law_led (Φ : Fns) : d__law_led.val G Φ = fnV Φ 3 5 [0, 1] t__law_led := by unfold Df.val; rw [body__law_led]; rfl
theorem S__law_led : SLawLed (d__law_led.val G (lay G D32)) := by
  have h__law_one : SOne (lay G D32 "_law_one") := by
    rw [lay_find (show findD "_law_one" D32 = some (d__law_one, D31) by kernel_rfl)]
    exact S__law_one
  rw [val__law_led]
  exact v_law_led h__law_one
theorem body__law_rows : d__law_rows.body G = t__law_rows := by kernel_rfl
theorem val__law_rows (Φ : Fns) : d__law_rows.val G Φ = fnV Φ 2 4 [0, 1] t__law_rows := by unfold Df.val; rw [body__law_rows]; rfl
theorem S__law_rows : SRows (d__law_rows.val G (lay G D33)) := by
  have h__law_flat : SFlat (lay G D33 "_law_flat") := by
    rw [lay_find (show findD "_law_flat" D33 = some (d__law_flat, D28) by kernel_rfl)]
    exact S__law_flat
  rw [val__law_rows]
  exact v_law_rows h__law_flat
theorem body__law_shuffle : d__law_shuffle.body G = t__law_shuffle := by kernel_rfl
theorem val__law_shuffle (Φ : Fns) : d__law_shuffle.val G Φ = fnV Φ 2 0 [0, 1] t__law_shuffle := by unfold Df.val; rw [body__law_shuffle]; rfl
theorem S__law_shuffle : SShuffle (d__law_shuffle.val G (lay G D34)) := by
  have h__law_pick : SPick (lay G D34 "_law_pick") := by
    rw [lay_find (show findD "_law_pick" D34 = some (d__law_pick, D26) by kernel_rfl)]
    exact S__law_pick
  rw [val__law_shuffle]
  exact v_law_shuffle h__law_pick
theorem body__law_any : d__law_any.body G = t__law_any := by kernel_rfl
theorem val__law_any (Φ : Fns) : d__law_any.val G Φ = fnV Φ 3 5 [0, 1, 2] t__law_any := by unfold Df.val; rw [body__law_any]; rfl
theorem S__law_any : SAny (d__law_any.val G (lay G D35)) := by
  have h__law_take : STake (lay G D35 "_law_take") := by
    rw [lay_find (show findD "_law_take" D35 = some (d__law_take, D23) by kernel_rfl)]
    exact S__law_take
  have h__law_shuffle : SShuffle (lay G D35 "_law_shuffle") := by
    rw [lay_find (show findD "_law_shuffle" D35 = some (d__law_shuffle, D34) by kernel_rfl)]
    exact S__law_shuffle
  rw [val__law_any]
  exact v_law_any h__law_take h__law_shuffle
theorem body__law_bounded : d__law_bounded.body G = t__law_bounded := by kernel_rfl
theorem val__law_bounded (Φ : Fns) : d__law_bounded.val G Φ = fnV Φ 2 9 [0, 1] t__law_bounded := by unfold Df.val; rw [body__law_bounded]; rfl
theorem S__law_bounded : SBounded (d__law_bounded.val G (lay G D36)) := by
  have h__law_take : STake (lay G D36 "_law_take") := by
    rw [lay_find (show findD "_law_take" D36 = some (d__law_take, D23) by kernel_rfl)]
    exact S__law_take
  have h__law_shuffle : SShuffle (lay G D36 "_law_shuffle") := by
    rw [lay_find (show findD "_law_shuffle" D36 = some (d__law_shuffle, D34) by kernel_rfl)]
    exact S__law_shuffle
  rw [val__law_bounded]
  exact v_law_bounded h__law_take h__law_shuffle
theorem body__law_add : d__law_add.body G = t__law_add := by kernel_rfl
theorem val__law_add (Φ : Fns) : d__law_add.val G Φ = fnV Φ 1 1 [0] t__law_add := by unfold Df.val; rw [body__law_add]; rfl
theorem S__law_add : SAdd (d__law_add.val G (lay G D37)) := by
  rw [val__law_add]
  exact v_law_add
theorem body__law_sorts : d__law_sorts.body G = t__law_sorts := by kernel_rfl
theorem val__law_sorts (Φ : Fns) : d__law_sorts.val G Φ = fnV Φ 0 0 [] t__law_sorts := by unfold Df.val; rw [body__law_sorts]; rfl
theorem S__law_sorts : SSorts (d__law_sorts.val G (lay G D38)) := by
  rw [val__law_sorts]
  exact v_law_sorts
theorem body__law_known : d__law_known.body G = t__law_known := by kernel_rfl
theorem val__law_known (Φ : Fns) : d__law_known.val G Φ = fnV Φ 0 1 [] t__law_known := by unfold Df.val; rw [body__law_known]; rfl
theorem S__law_known : SKnown (d__law_known.val G (lay G D39)) := by
  have h__law_add : SAdd (lay G D39 "_law_add") := by
    rw [lay_find (show findD "_law_add" D39 = some (d__law_add, D37) by kernel_rfl)]
    exact S__law_add
  have h__law_sorts : SSorts (lay G D39 "_law_sorts") := by
    rw [lay_find (show findD "_law_sorts" D39 = some (d__law_sorts, D38) by kernel_rfl)]
    exact S__law_sorts
  rw [val__law_known]
  exact v_law_known h__law_add h__law_sorts
theorem body__law_some : d__law_some.body G = t__law_some := by kernel_rfl
theorem val__law_some (Φ : Fns) : d__law_some.val G Φ = fnV Φ 1 1 [0] t__law_some := by unfold Df.val; rw [body__law_some]; rfl
theorem S__law_some : SSome (d__law_some.val G (lay G D40)) := by
  have h__law_take : STake (lay G D40 "_law_take") := by
    rw [lay_find (show findD "_law_take" D40 = some (d__law_take, D23) by kernel_rfl)]
    exact S__law_take
  have h__law_of : SOf (lay G D40 "_law_of") := by
    rw [lay_find (show findD "_law_of" D40 = some (d__law_of, D25) by kernel_rfl)]
    exact S__law_of
  have h__law_known : SKnown (lay G D40 "_law_known") := by
    rw [lay_find (show findD "_law_known" D40 = some (d__law_known, D39) by kernel_rfl)]
    exact S__law_known
  have h__law_bounded : SBounded (lay G D40 "_law_bounded") := by
    rw [lay_find (show findD "_law_bounded" D40 = some (d__law_bounded, D36) by kernel_rfl)]
    exact S__law_bounded
  have h__law_any : SAny (lay G D40 "_law_any") := by
    rw [lay_find (show findD "_law_any" D40 = some (d__law_any, D35) by kernel_rfl)]
    exact S__law_any
  rw [val__law_some]
  exact v_law_some h__law_take h__law_of h__law_known h__law_bounded h__law_any
theorem body__law_word : d__law_word.body G = t__law_word := by kernel_rfl
theorem val__law_word (Φ : Fns) : d__law_word.val G Φ = fnV Φ 3 1 [0, 1, 2] t__law_word := by unfold Df.val; rw [body__law_word]; rfl
theorem S__law_word : SWord (d__law_word.val G (lay G D41)) := by
  have h__law_take : STake (lay G D41 "_law_take") := by
    rw [lay_find (show findD "_law_take" D41 = some (d__law_take, D23) by kernel_rfl)]
    exact S__law_take
  have h__law_of : SOf (lay G D41 "_law_of") := by
    rw [lay_find (show findD "_law_of" D41 = some (d__law_of, D25) by kernel_rfl)]
    exact S__law_of
  have h__law_short : SShort (lay G D41 "_law_short") := by
    rw [lay_find (show findD "_law_short" D41 = some (d__law_short, D29) by kernel_rfl)]
    exact S__law_short
  rw [val__law_word]
  exact v_law_word h__law_take h__law_of h__law_short
theorem body_law : d_law.body G = t_law := by kernel_rfl
theorem val_law (Φ : Fns) : d_law.val G Φ = fnV Φ 1 17 [0] t_law := by unfold Df.val; rw [body_law]; rfl
theorem phi : LawPhi (lay G D42) where
  same := by
    rw [lay_find (show findD "_law_same" D42 = some (d__law_same, (List.replicate 7 d__law_same ++ D27)) by kernel_rfl)]
    exact SSame_le S__law_same (by decide)
  sameB := by
    rw [lay_find (show findD "_law_same" D42 = some (d__law_same, (List.replicate 7 d__law_same ++ D27)) by kernel_rfl)]
    exact SSameB_le sameB_7 (by decide)
  take := by
    rw [lay_find (show findD "_law_take" D42 = some (d__law_take, D23) by kernel_rfl)]
    exact S__law_take
  box := by
    rw [lay_find (show findD "_law_box" D42 = some (d__law_box, D22) by kernel_rfl)]
    exact S__law_box
  cells := by
    rw [lay_find (show findD "_law_cells" D42 = some (d__law_cells, D24) by kernel_rfl)]
    exact S__law_cells
  rowLed := by
    rw [lay_find (show findD "row_led" D42 = some (d_row_led, D19) by kernel_rfl)]
    exact S_row_led
  partAt := by
    rw [lay_find (show findD "part_at" D42 = some (d_part_at, D20) by kernel_rfl)]
    exact S_part_at
  wordBack := by
    rw [lay_find (show findD "word_back" D42 = some (d_word_back, D18) by kernel_rfl)]
    exact S_word_back
  shortened := by
    rw [lay_find (show findD "shortened" D42 = some (d_shortened, D17) by kernel_rfl)]
    exact S_shortened
  joined := by
    rw [lay_find (show findD "joined" D42 = some (d_joined, D21) by kernel_rfl)]
    exact S_joined
  short := by
    rw [lay_find (show findD "_law_short" D42 = some (d__law_short, D29) by kernel_rfl)]
    exact S__law_short
  back := by
    rw [lay_find (show findD "_law_back" D42 = some (d__law_back, D30) by kernel_rfl)]
    exact S__law_back
  pick := by
    rw [lay_find (show findD "_law_pick" D42 = some (d__law_pick, D26) by kernel_rfl)]
    exact S__law_pick
  some := by
    rw [lay_find (show findD "_law_some" D42 = some (d__law_some, D40) by kernel_rfl)]
    exact S__law_some
  word := by
    rw [lay_find (show findD "_law_word" D42 = some (d__law_word, D41) by kernel_rfl)]
    exact S__law_word
  rows := by
    rw [lay_find (show findD "_law_rows" D42 = some (d__law_rows, D33) by kernel_rfl)]
    exact S__law_rows
  lled := by
    rw [lay_find (show findD "_law_led" D42 = some (d__law_led, D32) by kernel_rfl)]
    exact S__law_led
theorem keeps : Keeps (lay G Ds "law") 63 := by
  intro ns hn
  rw [lay_find (show findD "law" Ds = some (d_law, D42) by kernel_rfl), val_law]
  exact law_keeps phi ns hn
end K02
end T_K02P
open PySem PySem.W PyProof.Rows
set_option maxHeartbeats 0 in
theorem PySem.Challenge.cw_lettermovers_k02_main_rows_led_one_to_on_holds : PySem.Challenge.rw_lettermovers_k02_main_rows_led_one_to_on.Holds := by
  w_on; o_law; k_head; (case hw => w_witness2)
  k_fill
  refine Wk.wk_walk (l := PySem.Challenge.rw_lettermovers_k02_main_rows_led_one_to_on) (G := K02.G) (ds := K02.Ds) (key := "law") (k := 57) (n := 63) rfl (by decide) rfl ⟨rfl, by decide, by decide⟩ (fun w h Y => PySem.W.kIn_of Y) K02.okD43 K02.Ds_len (by decide +kernel) K02.keeps ?F
  case F =>
    intro w mg h KX Y
    refine' K02.top_mk KX Y ?a_is_number ?l_is_number ?c_is_number ?k_is_number ?a_is_within ?l_is_within ?c_is_within ?k_is_within ?a_is_long ?l_is_long ?c_is_long ?k_is_long ?a_are_numbers ?l_are_numbers ?c_are_numbers ?k_are_numbers ?a_tupled ?l_tupled ?c_tupled ?k_tupled ?a_is_shuffle_of ?l_is_shuffle_of ?c_is_shuffle_of ?k_is_shuffle_of ?a_is_state_of ?l_is_state_of ?c_is_state_of ?k_is_state_of ?a_is_machine_in ?l_is_machine_in ?c_is_machine_in ?k_is_machine_in ?a_sure_machine ?l_sure_machine ?c_sure_machine ?k_sure_machine ?a_is_word_of ?l_is_word_of ?c_is_word_of ?k_is_word_of ?a_sure_word ?l_sure_word ?c_sure_word ?k_sure_word ?a_is_row_of ?l_is_row_of ?c_is_row_of ?k_is_row_of ?a_sure_row ?l_sure_row ?c_sure_row ?k_sure_row ?a_short_in ?l_short_in ?c_short_in ?k_short_in ?a_back_in ?l_back_in ?c_back_in ?k_back_in ?a_step_in ?l_step_in ?c_step_in ?k_step_in ?a_led_in ?l_led_in ?c_led_in ?k_led_in ?a_shortened ?l_shortened ?c_shortened ?k_shortened ?a_word_back ?l_word_back ?c_word_back ?k_word_back ?a_row_led ?l_row_led ?c_row_led ?k_row_led ?a_part_at ?l_part_at ?c_part_at ?k_part_at ?a_joined ?l_joined ?c_joined ?k_joined ?a__law_box ?l__law_box ?c__law_box ?k__law_box ?a__law_take ?l__law_take ?c__law_take ?k__law_take ?a__law_cells ?l__law_cells ?c__law_cells ?k__law_cells ?a__law_of ?l__law_of ?c__law_of ?k__law_of ?a__law_pick ?l__law_pick ?c__law_pick ?k__law_pick ?a__law_same ?l__law_same ?c__law_same ?k__law_same ?a__law_flat ?l__law_flat ?c__law_flat ?k__law_flat ?a__law_short ?l__law_short ?c__law_short ?k__law_short ?a__law_back ?l__law_back ?c__law_back ?k__law_back ?a__law_one ?l__law_one ?c__law_one ?k__law_one ?a__law_led ?l__law_led ?c__law_led ?k__law_led ?a__law_rows ?l__law_rows ?c__law_rows ?k__law_rows ?a__law_shuffle ?l__law_shuffle ?c__law_shuffle ?k__law_shuffle ?a__law_any ?l__law_any ?c__law_any ?k__law_any ?a__law_bounded ?l__law_bounded ?c__law_bounded ?k__law_bounded ?a__law_add ?l__law_add ?c__law_add ?k__law_add ?a__law_sorts ?l__law_sorts ?c__law_sorts ?k__law_sorts ?a__law_known ?l__law_known ?c__law_known ?k__law_known ?a__law_some ?l__law_some ?c__law_some ?k__law_some ?a__law_word ?l__law_word ?c__law_word ?k__law_word ?a_law ?l_law ?c_law ?k_law ?z_isinstance ?z_int ?z_bool ?z_str ?z_list ?z_tuple ?z_len ?z_abs ?z_all ?z_sorted ?z_range ?z_enumerate ?z_zip ?z_min ?a_LEAST_WIDE ?r_LEAST_WIDE ?a_MOST_WIDE ?r_MOST_WIDE ?a_MOST_STATES ?r_MOST_STATES ?a_MOST_WORD ?r_MOST_WORD ?a_MOST_ROW ?r_MOST_ROW ?a_Unfit ?e_Unfit ?k_Unfit ?s_Unfit ?t_Unfit
    (case a_is_number => k_is)
    (case l_is_number => k_is)
    (case c_is_number => k_is)
    (case k_is_number => k_is)
    (case a_is_within => k_is)
    (case l_is_within => k_is)
    (case c_is_within => k_is)
    (case k_is_within => k_is)
    (case a_is_long => k_is)
    (case l_is_long => k_is)
    (case c_is_long => k_is)
    (case k_is_long => k_is)
    (case a_are_numbers => k_is)
    (case l_are_numbers => k_is)
    (case c_are_numbers => k_is)
    (case k_are_numbers => k_is)
    (case a_tupled => k_is)
    (case l_tupled => k_is)
    (case c_tupled => k_is)
    (case k_tupled => k_is)
    (case a_is_shuffle_of => k_is)
    (case l_is_shuffle_of => k_is)
    (case c_is_shuffle_of => k_is)
    (case k_is_shuffle_of => k_is)
    (case a_is_state_of => k_is)
    (case l_is_state_of => k_is)
    (case c_is_state_of => k_is)
    (case k_is_state_of => k_is)
    (case a_is_machine_in => k_is)
    (case l_is_machine_in => k_is)
    (case c_is_machine_in => k_is)
    (case k_is_machine_in => k_is)
    (case a_sure_machine => k_is)
    (case l_sure_machine => k_is)
    (case c_sure_machine => k_is)
    (case k_sure_machine => k_is)
    (case a_is_word_of => k_is)
    (case l_is_word_of => k_is)
    (case c_is_word_of => k_is)
    (case k_is_word_of => k_is)
    (case a_sure_word => k_is)
    (case l_sure_word => k_is)
    (case c_sure_word => k_is)
    (case k_sure_word => k_is)
    (case a_is_row_of => k_is)
    (case l_is_row_of => k_is)
    (case c_is_row_of => k_is)
    (case k_is_row_of => k_is)
    (case a_sure_row => k_is)
    (case l_sure_row => k_is)
    (case c_sure_row => k_is)
    (case k_sure_row => k_is)
    (case a_short_in => k_is)
    (case l_short_in => k_is)
    (case c_short_in => k_is)
    (case k_short_in => k_is)
    (case a_back_in => k_is)
    (case l_back_in => k_is)
    (case c_back_in => k_is)
    (case k_back_in => k_is)
    (case a_step_in => k_is)
    (case l_step_in => k_is)
    (case c_step_in => k_is)
    (case k_step_in => k_is)
    (case a_led_in => k_is)
    (case l_led_in => k_is)
    (case c_led_in => k_is)
    (case k_led_in => k_is)
    (case a_shortened => k_is)
    (case l_shortened => k_is)
    (case c_shortened => k_is)
    (case k_shortened => k_is)
    (case a_word_back => k_is)
    (case l_word_back => k_is)
    (case c_word_back => k_is)
    (case k_word_back => k_is)
    (case a_row_led => k_is)
    (case l_row_led => k_is)
    (case c_row_led => k_is)
    (case k_row_led => k_is)
    (case a_part_at => k_is)
    (case l_part_at => k_is)
    (case c_part_at => k_is)
    (case k_part_at => k_is)
    (case a_joined => k_is)
    (case l_joined => k_is)
    (case c_joined => k_is)
    (case k_joined => k_is)
    (case a__law_box => k_is)
    (case l__law_box => k_is)
    (case c__law_box => k_is)
    (case k__law_box => k_is)
    (case a__law_take => k_is)
    (case l__law_take => k_is)
    (case c__law_take => k_is)
    (case k__law_take => k_is)
    (case a__law_cells => k_is)
    (case l__law_cells => k_is)
    (case c__law_cells => k_is)
    (case k__law_cells => k_is)
    (case a__law_of => k_is)
    (case l__law_of => k_is)
    (case c__law_of => k_is)
    (case k__law_of => k_is)
    (case a__law_pick => k_is)
    (case l__law_pick => k_is)
    (case c__law_pick => k_is)
    (case k__law_pick => k_is)
    (case a__law_same => k_is)
    (case l__law_same => k_is)
    (case c__law_same => k_is)
    (case k__law_same => k_is)
    (case a__law_flat => k_is)
    (case l__law_flat => k_is)
    (case c__law_flat => k_is)
    (case k__law_flat => k_is)
    (case a__law_short => k_is)
    (case l__law_short => k_is)
    (case c__law_short => k_is)
    (case k__law_short => k_is)
    (case a__law_back => k_is)
    (case l__law_back => k_is)
    (case c__law_back => k_is)
    (case k__law_back => k_is)
    (case a__law_one => k_is)
    (case l__law_one => k_is)
    (case c__law_one => k_is)
    (case k__law_one => k_is)
    (case a__law_led => k_is)
    (case l__law_led => k_is)
    (case c__law_led => k_is)
    (case k__law_led => k_is)
    (case a__law_rows => k_is)
    (case l__law_rows => k_is)
    (case c__law_rows => k_is)
    (case k__law_rows => k_is)
    (case a__law_shuffle => k_is)
    (case l__law_shuffle => k_is)
    (case c__law_shuffle => k_is)
    (case k__law_shuffle => k_is)
    (case a__law_any => k_is)
    (case l__law_any => k_is)
    (case c__law_any => k_is)
    (case k__law_any => k_is)
    (case a__law_bounded => k_is)
    (case l__law_bounded => k_is)
    (case c__law_bounded => k_is)
    (case k__law_bounded => k_is)
    (case a__law_add => k_is)
    (case l__law_add => k_is)
    (case c__law_add => k_is)
    (case k__law_add => k_is)
    (case a__law_sorts => k_is)
    (case l__law_sorts => k_is)
    (case c__law_sorts => k_is)
    (case k__law_sorts => k_is)
    (case a__law_known => k_is)
    (case l__law_known => k_is)
    (case c__law_known => k_is)
    (case k__law_known => k_is)
    (case a__law_some => k_is)
    (case l__law_some => k_is)
    (case c__law_some => k_is)
    (case k__law_some => k_is)
    (case a__law_word => k_is)
    (case l__law_word => k_is)
    (case c__law_word => k_is)
    (case k__law_word => k_is)
    (case a_law => k_is)
    (case l_law => k_is)
    (case c_law => k_is)
    (case k_law => k_is)
    (case z_isinstance => k_is)
    (case z_int => k_is)
    (case z_bool => k_is)
    (case z_str => k_is)
    (case z_list => k_is)
    (case z_tuple => k_is)
    (case z_len => k_is)
    (case z_abs => k_is)
    (case z_all => k_is)
    (case z_sorted => k_is)
    (case z_range => k_is)
    (case z_enumerate => k_is)
    (case z_zip => k_is)
    (case z_min => k_is)
    (case a_LEAST_WIDE => k_is)
    (case r_LEAST_WIDE => exact ⟨_, rfl⟩)
    (case a_MOST_WIDE => k_is)
    (case r_MOST_WIDE => exact ⟨_, rfl⟩)
    (case a_MOST_STATES => k_is)
    (case r_MOST_STATES => exact ⟨_, rfl⟩)
    (case a_MOST_WORD => k_is)
    (case r_MOST_WORD => exact ⟨_, rfl⟩)
    (case a_MOST_ROW => k_is)
    (case r_MOST_ROW => exact ⟨_, rfl⟩)
    (case a_Unfit => k_is)
    (case e_Unfit => k_exc)
    (case k_Unfit => k_is)
    (case s_Unfit => k_is)
    (case t_Unfit => k_is)
