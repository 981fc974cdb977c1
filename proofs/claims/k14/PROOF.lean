import PyProof.Rows.All
import Wide.All
import OpenK.AllK
import Wide.FinOn
import HandS.ForMost
import HandS.ForExc
import HandS.Rev
import HandS.RevRange
import HandS.Conv
import HandS.IsInst
import HandS.Evl
import HandS.ExcIs
import HandS.HotCalls
import HandS.SuiteRaise
import HandS.Wide
import HandS.More
import HandS.ForDict
import PyProof.DictFindH
import KE.IntTextLaws
import PySem.Challenge.RW_flipstack_k14_texts_refused
set_option Elab.async false
set_option linter.all false
set_option maxRecDepth 100000
set_option maxHeartbeats 4000000
namespace FL
open PySem PySem.Spec PyProof.Rows L2 RT
/-! ## list(iterator): an iterator that is its own iterator, of a type whose length hint the model takes for nothing -/
section
variable {prog : Program} {w : World} {A : Around} {E : Value → Shared → Prop} {s : Shared}
def HintNone (prog : Program) (w : World) (T : String) (it : Addr) (OK : Heap → Prop) : Prop :=
  ∀ (A : Around) (E : Value → Shared → Prop) (s : Shared) (Q : Bool → Shared → Prop), s.TypeIs (.ref it) T → OK s.heap → (∀ tk, Q false { s with toks := tk }) → wpAny (model prog w) A (Builtin.List.listLengthHint (.ref it)) Q E s
theorem extend_it {R : Result → Shared → Prop} {it : Addr} {T : String} {fp : List Addr} {n : Nat} {P : Nat → Value → Prop} {St : Nat → Heap → Prop} (Wk : Walks prog w A.in1 it fp [it] n P St) (tyI : s.TypeIs (.ref it) T)
    (hT : T = "list_reverseiterator" ∨ T = "range_iterator") (hi : HintNone prog w T it (St 0)) (st : St 0 s.heap) (nz : n ≤ sizeLine)
    (L : Addr) (hLi : L ≠ it) (hLf : L ∉ fp) (rv0 : Value) (c0 : Nat) (hL : s.heap.get? L = some { cls := .type "list", data := .seq #[] c0 })
    (kR : ∀ h' tk ac c', (∀ b o, b ≠ L → b ≠ it → s.heap.get? b = some o → h'.get? b = some o) → h'.get? L = some { cls := .type "list", dict := none, data := .seq ac c', slots := #[] } → ItemsOf P ac n → R (.ok (.ret rv0)) { s with heap := h', toks := tk }) :
    wpAny (model prog w) A.in1 (Builtin.List.listExtendWith (.ref L) (.ref it) rv0)
      (fun fin s2 => match fin with | .done f => R (.ok f) s2 | .again c2 => c2.quiet = true ∧ codeAny (model prog w) A c2 R s2) (fun e s2 => R (.error e) s2) s := by
  have ns1 : Builtin.List.listSameRef (.ref L) (.ref it) = false := by simp [Builtin.List.listSameRef, hLi]
  unfold Builtin.List.listExtendWith
  refine wpAny_bind (wpAny_typeOf tyI ?_)
  refine wpAny_ite_split (fun hab => absurd hab (by rw [ns1]; rcases hT with rfl | rfl <;> decide)) (fun _ => ?_)
  refine wpAny_bind (Wk.self 0 s _ _ st ?_)
  refine wpAny_bind (wpAny_holding (hi _ _ s _ tyI st fun tk0 => ?_))
  refine wpAny_ite_split (fun hab => absurd hab (by rcases hT with rfl | rfl <;> decide)) (fun _ => ?_)
  refine wpAny_pure ⟨plainId_quiet F.plain_extend_loop _, codeAny_extend_loopS Wk.toS nz L hLf rv0 n 0 _ #[] c0 rfl (Nat.zero_le _) st hL (ItemsOf.nil _) fun s2 ac c2 mv hL2 acc0 => ?_⟩
  rw [Moved.eq_with mv]
  refine kR s2.heap s2.toks ac c2 (fun b o hb hb2 e => mv.heap b o (fun mm => ?_) e) hL2 acc0
  rcases List.mem_cons.mp mm with e2 | mm
  · exact hb e2
  · exact hb2 (List.mem_singleton.mp mm)
theorem init_it {R : Result → Shared → Prop} {it : Addr} {T : String} {fp : List Addr} {n : Nat} {P : Nat → Value → Prop} {St : Nat → Heap → Prop} (Wk : Walks prog w A.in1 it fp [it] n P St) (tyI : s.TypeIs (.ref it) T)
    (hT : T = "list_reverseiterator" ∨ T = "range_iterator") (hi : HintNone prog w T it (St 0)) (st : St 0 s.heap) (nz : n ≤ sizeLine)
    (L : Addr) (hLi : L ≠ it) (hLf : L ∉ fp) (hL : s.heap.get? L = some { cls := .type "list", data := .seq #[] })
    (kR : ∀ h' tk ac c', (∀ b o, b ≠ L → b ≠ it → s.heap.get? b = some o → h'.get? b = some o) → h'.get? L = some { cls := .type "list", dict := none, data := .seq ac c', slots := #[] } → ItemsOf P ac n → R (.ok (.ret .none)) { s with heap := h', toks := tk }) :
    wpAny (model prog w) A.in1 (Builtin.«list.__init__» ⟨[.ref L, .ref it], []⟩)
      (fun fin s2 => match fin with | .done f => R (.ok f) s2 | .again c2 => c2.quiet = true ∧ codeAny (model prog w) A c2 R s2) (fun e s2 => R (.error e) s2) s := by
  show wpAny _ _ (do let was ← Builtin.List.listItems (.ref L); Builtin.List.listUpdate (.ref L) (fun _ => #[]); letGo was.toList.reverse; Builtin.List.listExtendWith (.ref L) (.ref it) .none) _ _ s
  refine wpAny_bind ?_
  unfold Builtin.List.listItems
  refine wpAny_bind (wpAny_seqItems hL rfl (wpAny_pure ?_))
  show wpAny _ _ (updateSeq L (fun _ => #[]) >>= fun _ => letGo (#[] : Array Value).toList.reverse >>= fun _ => Builtin.List.listExtendWith (.ref L) (.ref it) .none) _ _ s
  refine wpAny_bind (wpAny_updateSeq hL rfl (wpAny_bind (wpAny_letGo ?_)))
  have hL2 := Heap.get?_update_self (Obj.mapSeq (fun _ => (#[] : Array Value))) hL rfl
  have rest0 : ∀ b o, b ≠ L → s.heap.get? b = some o → (s.heap.update L (Obj.mapSeq (fun _ => (#[] : Array Value)))).get? b = some o := fun b o nb e => (Heap.get?_update_other _ _ nb.symm).trans e
  obtain ⟨oi, hoi, hoc⟩ := id tyI
  refine extend_it (s := { s with heap := s.heap.update L (Obj.mapSeq (fun _ => (#[] : Array Value))) }) Wk ⟨oi, rest0 _ _ hLi.symm hoi, hoc⟩ hT hi (Wk.frame 0 _ _ st fun b hb o e => rest0 b o (fun z => hLf (z ▸ hb)) e) nz L hLi hLf .none _ hL2 fun h2 tk ac c2 kp e2 it2 => ?_
  exact kR h2 tk ac c2 (fun b o hb hb2 e => kp b o hb hb2 (rest0 b o hb e)) e2 it2
theorem call_list_it {Q : Value → Shared → Prop} {it : Addr} {T : String} {fp : List Addr} {n : Nat} {P : Nat → Value → Prop} {St : Nat → Heap → Prop} (Wk : Walks prog w A.in1.in1 it fp [it] n P St) (tyI : s.TypeIs (.ref it) T)
    (hT : T = "list_reverseiterator" ∨ T = "range_iterator") (hi : HintNone prog w T it (St 0)) (st : St 0 s.heap) (nz : n ≤ sizeLine) (hf : ∀ b ∈ fp, b < s.heap.objs.size)
    (kQ : ∀ h' tk ac c', (∀ b o, b ≠ it → s.heap.get? b = some o → h'.get? b = some o) → h'.get? s.heap.objs.size = some { cls := .type "list", dict := none, data := .seq ac c', slots := #[] } → ItemsOf P ac n → Q (.ref s.heap.objs.size) { s with heap := h', toks := tk }) :
    wpAny (model prog w) A (call (.type "list") [.ref it]) Q E s := by
  refine callType_codes (Q₁ := fun ob t1 => ob = .ref s.heap.objs.size ∧ t1 = { s with heap := s.heap.push { cls := .type "list", data := .seq #[] } }) PySem.F.called_list (PySem.F.typeCall_list_1 _) PySem.F.entry_list_init
    (code_list_new _ ⟨rfl, rfl⟩) fun ob t1 q1 => ?_
  obtain ⟨rfl, rfl⟩ := q1
  have hL : (s.heap.push { cls := .type "list", data := .seq #[] }).get? s.heap.objs.size = some { cls := .type "list", data := .seq #[] } := Heap.get?_push_size _ rfl
  obtain ⟨oi, hoi, hoc⟩ := id tyI
  refine ⟨⟨_, hL, rfl⟩, PySem.F.args_list_init_2 _ _, init_it (A := A.in1) Wk ⟨oi, Heap.get?_push_of_some _ hoi, hoc⟩ hT hi (Wk.frame 0 _ _ st fun b _ o e => Heap.get?_push_of_some _ e) nz _ (Nat.ne_of_gt (Heap.lt_size hoi)) (fun hm => absurd (hf _ hm) (Nat.lt_irrefl _)) hL (fun h2 tk ac c2 kp e2 it2 => ?_)⟩
  exact ⟨rfl, kQ h2 tk ac c2 (fun b o nb e => kp b o (Nat.ne_of_lt (Heap.lt_size e)) nb (Heap.get?_push_of_some _ e)) e2 it2⟩
theorem hint_rev (it : Addr) {OK : Heap → Prop} : HintNone prog w "list_reverseiterator" it OK := fun A E s Q tyI ok q => by
  unfold Builtin.List.listLengthHint
  refine wpAny_bind (wpAny_specialOf tyI nolen_lri ?_)
  show wpAny _ A (specialOf (Value.ref it) (Str.ofString "__length_hint__") >>= _) _ _ _
  refine wpAny_bind (wpAny_specialOf tyI hint_lri ?_)
  generalize nm : ("list_reverseiterator.__length_hint__" : String) = meth
  wp_delta
  rw [show splitId meth = some ("list_reverseiterator", "__length_hint__") from by subst nm; decide +kernel]
  subst nm
  exact wpAny_bind (wpAny_isInstance (b := true) tyI (by rw [isSubtype_type]; kernel_rfl) (wpAny_pure (q s.toks)))
theorem call_rgi_hint {r : Addr} {a c : Int} {n : Nat} {Q : Value → Shared → Prop} (hr : IsRangeIter s.heap r a (n : Int) c) (h : ∀ t tk, Q (.int (n : Int) t) { s with toks := tk }) :
    wpAny (model prog w) A (call (.builtin "range_iterator.__length_hint__") [.ref r]) Q E s := by
  have hT : s.TypeIs (.ref r) "range_iterator" := ⟨_, hr, rfl⟩
  refine wpAny_call_entry F.slot_range_iterator_length_hint hT F.entry_range_iterator_length_hint ?_ (F.args_range_iterator_length_hint_1 _)
  obtain ⟨hp, g, d, tk, os⟩ := s
  wp_walk using wpAny_loadPart' hr
  exact ⟨_, rfl, h _ _⟩
theorem hint_rgi (it : Addr) {a c : Int} {n : Nat} {OK : Heap → Prop} (ok : ∀ h, OK h → IsRangeIter h it a (n : Int) c) (hn : n ≤ 2 ^ 24) : HintNone prog w "range_iterator" it OK := fun A E s Q tyI o q => by
  unfold Builtin.List.listLengthHint
  refine wpAny_bind (wpAny_specialOf tyI F.nolen_ra ?_)
  show wpAny _ A (specialOf (Value.ref it) (Str.ofString "__length_hint__") >>= _) _ _ _
  refine wpAny_bind (wpAny_specialOf tyI F.hint_ra ?_)
  generalize nm : ("range_iterator.__length_hint__" : String) = meth
  wp_delta
  rw [show splitId meth = some ("range_iterator", "__length_hint__") from by subst nm; decide +kernel]
  subst nm
  refine wpAny_bind (wpAny_isInstance (b := true) tyI (by rw [isSubtype_type]; kernel_rfl) ?_)
  show wpAny _ A (call (.builtin "range_iterator.__length_hint__") [.ref it] >>= _) _ _ _
  refine wpAny_bind (call_rgi_hint (ok _ o) fun t tk => ?_)
  have htl : Builtin.List.listTooLong ((n : Int).toNat) = false := by simp [Builtin.List.listTooLong, sizeLine]; omega
  refine wpAny_bind (m := asInt? _) (wpAny_pure ?_)
  dsimp only
  rw [if_neg (by rw [htl]; decide)]
  exact wpAny_pure (q tk)
end
/-- list(reversed(x)), x a list: a new list -/
def tLstRev (K : PySem.W.Frag) (te : TE) : TE := fun σ H Q => te σ H fun v H1 => ∃ (a : Addr) (xs : List V), v = .ref a ∧ SqL K H1 a xs ∧ ∀ q, H1 q = none → Q (.ref q) (upd H1 q (.lst xs.reverse))
/-- list(reversed(range(a, b))): a new list -/
def tLstRevR (te : L2.St → Hp → (Int → Int → Hp → Prop) → Prop) : TE := fun σ H Q => te σ H fun a b H1 => RgOk a b ∧ ∀ q, H1 q = none → Q (.ref q) (upd H1 q (.lst (rgV a b).reverse))
section
variable {X : Cx}
theorem pe_lstRev {e : Expr} {te : TE} {p p2 pos pos2 : Pos} (hc : X.calm = true) (hg : Gl X "list") (mv : X.mg "list" = none) (hg2 : Gl X "reversed") (hm2 : X.mg "reversed" = none) (he : PE X e te)
    (st1 : starEach [e] X.env = (false, eval e X.env) :: starEach [] X.env := by rfl)
    (st2 : starEach [.Call (.Name "reversed" p2) [e] [] pos2] X.env = (false, eval (.Call (.Name "reversed" p2) [e] [] pos2) X.env) :: starEach [] X.env := by rfl) :
    PE X (.Call (.Name "list" p) [.Call (.Name "reversed" p2) [e] [] pos2] [] pos) (tLstRev X.K te) := by
  refine ⟨fun pins s σ H Q I h => Call_ (ld_blt I hg mv boot_list (PyProof.Rows.callWith_type1 (args_cons (Call_ (ld_blt I hg2 hm2 PyProof.Rows.boot_reversed (PyProof.Rows.callWith_type1 (args_cons (thn (he.run pins s σ H _ I h) fun u0 s1 ⟨v, H1, J1, rr, qq⟩ => args_nil ?_) st1) st1 rfl))) st2) st2 rfl))⟩
  obtain ⟨l0, ys, eV, lq, q⟩ := qq
  subst eV
  obtain rfl : u0 = Value.ref l0 := rr
  obtain ⟨vs0, rV, pl, zL⟩ := J1.list lq
  refine call_reversed_list pl.isList (args_nil ?_)
  have kOld : ∀ b o, s1.heap.get? b = some o → (s1.heap.push (revObj l0 ((vs0.toArray.size : Int) - 1))).get? b = some o := fun b o x => Heap.get?_push_of_some _ x
  have li := pl.isList
  obtain ⟨oL, hoL, _⟩ := id li
  have nli : l0 ≠ s1.heap.objs.size := Nat.ne_of_lt (Heap.lt_size hoL)
  have nz : vs0.toArray.size ≤ sizeLine := by rw [List.size_toArray, ← rV.length]; exact zL
  have szL : s1.heap.objs.size ≤ (s1.heap.push (revObj l0 ((vs0.toArray.size : Int) - 1))).objs.size := by
    rw [Heap.size_push]
    exact Nat.le_succ _
  have st0 : ∀ h : Heap, h.IsRevIter s1.heap.objs.size l0 ((vs0.toArray.size : Int) - 1) → h.IsRevIter s1.heap.objs.size l0 ((vs0.toArray.size : Int) - 1 - ((0 : Nat) : Int)) := fun h x => by
    rw [show ((vs0.toArray.size : Nat) : Int) - 1 - ((0 : Nat) : Int) = (vs0.toArray.size : Int) - 1 by omega]
    exact x
  refine call_list_it (s := { s1 with heap := s1.heap.push (revObj l0 ((vs0.toArray.size : Int) - 1)) }) (Walks.listRev (show X.A.in1.in1.handled = none from J1.ok.hd hc) s1.heap.objs.size l0 nli vs0.toArray) ⟨_, Heap.get?_push_size _ rfl, rfl⟩ (.inl rfl) (hint_rev _)
    ⟨Nat.zero_le _, st0 _ ⟨_, Heap.get?_push_size _ rfl, rfl, rfl⟩, li.push _⟩ nz (fun b hb => ?_) fun h2 tk ac c2 kp e2 it2 => ?_
  · rw [Heap.size_push]
    rcases List.mem_cons.mp hb with z | z
    · rw [z]
      exact Nat.lt_succ_self _
    · rw [List.mem_singleton.mp z]
      exact Nat.lt_succ_of_lt (Heap.lt_size hoL)
  have kk : ∀ b o, s1.heap.get? b = some o → h2.get? b = some o := fun b o x => kp b o (Nat.ne_of_lt (Heap.lt_size x)) (kOld b o x)
  refine ⟨.ref (s1.heap.push (revObj l0 ((vs0.toArray.size : Int) - 1))).objs.size, upd H1 (s1.heap.push (revObj l0 ((vs0.toArray.size : Int) - 1))).objs.size (.lst ys.reverse),
    J1.laid (t' := tk) kk szL (show ObjOk X.prog X.w _ _ _ (.lst ys.reverse) from ⟨by rw [List.length_reverse]; exact zL, ac.toList, c2, vals_rev rV it2, by rw [Array.toArray_toList]; exact e2⟩), rfl, q _ (J1.hok.fresh szL)⟩
theorem rgV_rev (a b : Int) : (rgV a b).reverse = (List.range (b - a).toNat).map fun (i : Nat) => V.int (a + (((b - a).toNat : Nat) : Int) - 1 + (i : Int) * (-1)) := by
  unfold rgV
  apply List.ext_getElem?
  intro i
  by_cases h : i < (b - a).toNat
  · rw [List.getElem?_reverse (by rw [List.length_map, List.length_range]; exact h), List.length_map, List.length_range, List.getElem?_map, List.getElem?_map, List.getElem?_range h, List.getElem?_range (by omega)]
    show some (V.int _) = some (V.int _)
    congr 2
    omega
  · rw [List.getElem?_eq_none (by rw [List.length_reverse, List.length_map, List.length_range]; omega), List.getElem?_eq_none (by rw [List.length_map, List.length_range]; omega)]
theorem pe_lstRevR {e : Expr} {te : L2.St → Hp → (Int → Int → Hp → Prop) → Prop} {p p2 pos pos2 : Pos} (hc : X.calm = true) (hg : Gl X "list") (mv : X.mg "list" = none) (hg2 : Gl X "reversed") (hm2 : X.mg "reversed" = none) (he : PRg X e te)
    (st1 : starEach [e] X.env = (false, eval e X.env) :: starEach [] X.env := by rfl)
    (st2 : starEach [.Call (.Name "reversed" p2) [e] [] pos2] X.env = (false, eval (.Call (.Name "reversed" p2) [e] [] pos2) X.env) :: starEach [] X.env := by rfl) :
    PE X (.Call (.Name "list" p) [.Call (.Name "reversed" p2) [e] [] pos2] [] pos) (tLstRevR te) := by
  refine ⟨fun pins s σ H Q I h => Call_ (ld_blt I hg mv boot_list (PyProof.Rows.callWith_type1 (args_cons (Call_ (ld_blt I hg2 hm2 PyProof.Rows.boot_reversed (PyProof.Rows.callWith_type1 (args_cons (thn (he pins s σ H _ I h) fun u0 s1 hx => args_nil ?_) st1) st1 rfl))) st2) st2 rfl))⟩
  obtain ⟨r, a, b, t, w1, v, H1, eu, hr, J1, ok, q⟩ := hx
  subst eu
  obtain ⟨b1, b2, b3, b4, b5⟩ := ok
  have hn : Builtin.Range.rangeSize a b 1 = (((b - a).toNat : Nat) : Int) := rangeSize_nat a b
  refine call_reversed_range hr (smallRev_one b1 b2 b3 b4) (args_nil ?_)
  have kOld : ∀ c o, s1.heap.get? c = some o → (s1.heap.push (rngRevObj a b 1)).get? c = some o := fun c o x => Heap.get?_push_of_some _ x
  have szL : s1.heap.objs.size ≤ (s1.heap.push (rngRevObj a b 1)).objs.size := by
    rw [Heap.size_push]
    exact Nat.le_succ _
  have st0 : IsRangeIter (s1.heap.push (rngRevObj a b 1)) s1.heap.objs.size (a + (((b - a).toNat : Nat) : Int) - 1 + ((0 : Nat) : Int) * (-1)) ((((b - a).toNat : Nat) : Int) - ((0 : Nat) : Int)) (-1) := by
    have e1 : a + (((b - a).toNat : Nat) : Int) - 1 + ((0 : Nat) : Int) * (-1) = a + (Builtin.Range.rangeSize a b 1 - 1) * 1 := by rw [hn]; omega
    have e2 : (((b - a).toNat : Nat) : Int) - ((0 : Nat) : Int) = Builtin.Range.rangeSize a b 1 := by rw [hn]; omega
    rw [e1, e2]
    exact Heap.get?_push_size _ rfl
  refine call_list_it (s := { s1 with heap := s1.heap.push (rngRevObj a b 1) }) (Walks.range (show X.A.in1.in1.handled = none from J1.ok.hd hc) s1.heap.objs.size (a + (((b - a).toNat : Nat) : Int) - 1) (-1) (b - a).toNat) ⟨_, Heap.get?_push_size _ rfl, rfl⟩ (.inr rfl) (hint_rgi _ (n := (b - a).toNat) (fun h x => by simpa using x) (by omega))
    st0 (by rw [sizeLine_eq]; omega) (fun c hc2 => ?_) fun h2 tk ac c2 kp e2 it2 => ?_
  · rw [Heap.size_push, List.mem_singleton.mp hc2]
    exact Nat.lt_succ_self _
  have kk : ∀ c o, s1.heap.get? c = some o → h2.get? c = some o := fun c o x => kp c o (Nat.ne_of_lt (Heap.lt_size x)) (kOld c o x)
  have hv : Vals (rgV a b).reverse ac.toList := by
    have el : ac.toList.length = (b - a).toNat := by rw [Array.length_toList]; exact it2.1
    rw [rgV_rev, ← el]
    refine vals_of_get ac.toList (fun (i : Nat) => V.int (a + ((ac.toList.length : Nat) : Int) - 1 + (i : Int) * (-1))) fun j u hj => ?_
    obtain ⟨tt, rfl⟩ := it2.2 j u (by rw [← hj, Array.getElem?_toList])
    exact ⟨tt, by rw [el]⟩
  refine ⟨.ref (s1.heap.push (rngRevObj a b 1)).objs.size, upd H1 (s1.heap.push (rngRevObj a b 1)).objs.size (.lst (rgV a b).reverse),
    J1.laid (t' := tk) kk szL (show ObjOk X.prog X.w _ _ _ (.lst (rgV a b).reverse) from ⟨by rw [List.length_reverse, rgV_length, sizeLine_eq]; omega, ac.toList, c2, hv, by rw [Array.toArray_toList]; exact e2⟩), rfl, q _ (J1.hok.fresh szL)⟩
theorem vals3 {x y z : V} {us : List Value} (r : Vals [x, y, z] us) : ∃ u1 u2 u3, us = [u1, u2, u3] ∧ RelV x u1 ∧ RelV y u2 ∧ RelV z u3 := by
  cases r with
  | cons r1 r =>
    cases r with
    | cons r2 r =>
      cases r with
      | cons r3 r =>
        cases r
        exact ⟨_, _, _, rfl, r1, r2, r3⟩
/-- list(range(a, b, c)): a new list -/
def tLstRg3 (ta : TA) : TE := fun σ H Q => ta σ H fun vs H1 => ∃ (i j c : Int) (n : Nat), vs = [.int i, .int j, .int c] ∧ RgC i j c n ∧ n ≤ 2 ^ 24 ∧ ∀ q, H1 q = none → Q (.ref q) (upd H1 q (.lst ((List.range n).map fun (k : Nat) => V.int (i + (k : Int) * c))))
theorem pe_listRg3 {a b d : Expr} {ta : TA} {p p2 pos pos2 : Pos} (hc : X.calm = true) (hg : Gl X "list") (mv : X.mg "list" = none) (hg2 : Gl X "range") (hm2 : X.mg "range" = none) (ha : PA X [a, b, d] ta)
    (st1 : starEach [a, b, d] X.env = (false, eval a X.env) :: starEach [b, d] X.env := by rfl) (pl1 : (backTo pos2 (starEach [b, d] X.env)).any (·.1) = false := by rfl)
    (st2 : starEach [.Call (.Name "range" p2) [a, b, d] [] pos2] X.env = (false, eval (.Call (.Name "range" p2) [a, b, d] [] pos2) X.env) :: starEach [] X.env := by rfl) :
    PE X (.Call (.Name "list" p) [.Call (.Name "range" p2) [a, b, d] [] pos2] [] pos) (tLstRg3 ta) := by
  refine ⟨fun pins s σ H Q I h => Call_ (ld_blt I hg mv boot_list (PyProof.Rows.callWith_type1 (args_cons (Call_ (ld_blt I hg2 hm2 boot_range (PyProof.Rows.callWith_type1 (thn (ha.run pos2 pins s σ H _ I h) fun us s1 ⟨vs, H1, J, rv, q0⟩ => ?_) st1 pl1))) st2) st2 rfl))⟩
  obtain ⟨i, j, c, n, e, ⟨c0, c1, c2, c3⟩, n24, q⟩ := q0
  subst e
  obtain ⟨u1, u2, u3, rfl, ⟨t1, rfl⟩, ⟨t2, rfl⟩, ⟨t3, rfl⟩⟩ := vals3 rv
  refine call_range_3 c0 (args_nil ?_) (.inl (PyProof.noPylong_small c1))
  have hr : IsRange (s1.heap.push { cls := .type "range", data := .fields #[.int i t1, .int j t2, .int c t3] }) s1.heap.objs.size i j c t1 t2 t3 := IsRange.new ..
  have J2 : Inv X pins σ H1 { s1 with heap := s1.heap.push { cls := .type "range", data := .fields #[.int i t1, .int j t2, .int c t3] } } := J.kept (t' := s1.toks) fun z o x => Heap.get?_push_of_some _ x
  refine call_list_range (n := n) (J.ok.hd hc) hr c2 c3 n24 fun h' tk acc c' kp e' hi => ?_
  have hv : Vals ((List.range n).map fun (k : Nat) => V.int (i + (k : Int) * c)) acc.toList := by
    have el : acc.toList.length = n := by rw [Array.length_toList]; exact hi.1
    rw [← el]
    refine vals_of_get acc.toList (fun (k : Nat) => V.int (i + (k : Int) * c)) fun z u hz => ?_
    obtain ⟨t, rfl⟩ := hi.2 z u (by rw [← hz, Array.getElem?_toList])
    exact ⟨t, rfl⟩
  have ob : ObjOk X.prog X.w (upd H1 (s1.heap.push { cls := .type "range", data := .fields #[.int i t1, .int j t2, .int c t3] }).objs.size (.lst ((List.range n).map fun (k : Nat) => V.int (i + (k : Int) * c)))) h' (s1.heap.push { cls := .type "range", data := .fields #[.int i t1, .int j t2, .int c t3] }).objs.size (.lst ((List.range n).map fun (k : Nat) => V.int (i + (k : Int) * c))) := by
    refine ⟨by rw [List.length_map, List.length_range, sizeLine_eq]; omega, acc.toList, c', hv, ?_⟩
    rw [Array.toArray_toList]
    exact e'
  have J3 := J2.laid (t' := tk) kp (Nat.le_refl _) ob
  have fr := J2.hok.fresh (Nat.le_refl _)
  exact ⟨.ref _, upd H1 _ (.lst _), J3, rfl, q _ fr⟩
end
end FL
namespace FL
open PySem PySem.Spec PyProof.Rows L2
/-! ## calls of the text's own defs -/
structure Cal (P : Program) (w : World) (K : PySem.W.Frag) (mg : Str → Option Value) (base : Heap) (x : Str) (k : Nat) (ps : List Str) (sp : Sp) : Prop where
  ex : ∃ (f : Addr) (fd : FuncData), FnOk P w K mg base (L2.CX P w) k f fd ps sp ∧ mg x = some (.ref f) ∧ PySem.W.keepIn K (.ref f) = true ∧ Binds K fd ps []
section
variable {X : Cx} {k j : Nat} {ps : List Str} {sp : Sp} {x : Str} {p pos : Pos} {e : Expr} {es : List Expr} {t : TA} {W : WX}
theorem pe_cal (G : Cal X.prog X.w X.K X.mg X.base x j ps sp) (hr : Room k X.A) (hj : j ≤ k) (tk : Takes X W) (hg : Gl X x) (ha : PA X (e :: es) t)
    (hdb : (x == ("__debug__" : Str)) = false := by decide) (he : starEach (e :: es) X.env = (false, eval e X.env) :: starEach es X.env := by rfl) (hpl : (backTo pos (starEach es X.env)).any (·.1) = false := by rfl) :
    PE X (.Call (.Name x p) (e :: es) [] pos) (tCallS sp (WE W) t) := by
  obtain ⟨f, fd, F, hm, hk, hb⟩ := G.ex
  exact pe_callS F (hr.mono hj) hg hm hk hb (fun σ => passAt tk σ) ha hdb he hpl
end
theorem tkOf {P : Program} {w : World} {K : PySem.W.Frag} {mg : Str → Option Value} {base : Heap} {N : List Str} {qual : Str} {scope : Scope} {f : Addr} {cd : Value} {A : Around} {outer : List Env} {s : Shared} {H : Hp} {E : XK} :
    Takes (cxOf (L2.CX P w) P w K mg base N qual scope f cd A outer s H E) (fun cls d _ H => E cls d H) := takes_of rfl rfl rfl rfl
/-! ## heaps -/
theorem Same.at {H H' : Hp} (s : Same H H') {a : Addr} {o : HO} (h : H a = some o) : H' a = some o := s a o h
theorem upd_old {H : Hp} {p a : Addr} {o u : HO} (hp : H p = none) (h : H a = some u) : upd H p o a = some u := by
  rw [upd_ne (ne_of_none h hp)]
  exact h
theorem upd_oth {H : Hp} {p a : Addr} {o u : HO} (hn : a ≠ p) (h : H a = some u) : upd H p o a = some u := by
  rw [upd_ne hn]
  exact h
theorem same_new {H0 H : Hp} {p : Addr} {o : HO} (s : Same H0 H) (hp : H p = none) : Same H0 (upd H p o) := fun b u e => upd_old hp (s b u e)
theorem same_mut {H0 H : Hp} {p : Addr} {o : HO} (s : Same H0 H) (hp : H0 p = none) : Same H0 (upd H p o) := fun b u e => upd_oth (ne_of_none e hp) (s b u e)
theorem ne_old {H : Hp} {a p : Addr} {o : HO} (hp : H p = none) (h : H a = some o) : a ≠ p := ne_of_none h hp
theorem ne_new {H : Hp} {a p : Addr} {o : HO} (hp : H p = none) (h : H a = some o) : p ≠ a := (ne_of_none h hp).symm
/-- a list that is read: sq -/
theorem sq_same {K : PySem.W.Frag} {H H' : Hp} {a : Addr} {xs : List V} (s : Same H H') (h : SqL K H a xs) : SqL K H' a xs := s.seq h
theorem frees {H0 H : Hp} {p : Addr} (s : Same H0 H) (h : H p = none) : H0 p = none := s.free h
theorem len_small {n : Nat} (h : n ≤ 100000) : n ≤ sizeLine := Nat.le_trans h (by decide)
theorem len_small' {n : Nat} (h : n < 100000) : n < sizeLine := Nat.lt_of_lt_of_le h (by decide)
theorem iteDT {c A B : Prop} [Decidable c] (hc : c) (h : A) : if decide c = true then A else B := by
  rw [decide_eq_true hc]
  exact iteT h
theorem iteDF {c A B : Prop} [Decidable c] (hc : ¬ c) (h : B) : if decide c = true then A else B := by
  rw [decide_eq_false hc]
  exact iteF h
theorem iteB {b : Bool} {A B : Prop} (h1 : b = true → A) (h2 : b = false → B) : if b = true then A else B := by
  cases b with
  | true => exact iteT (h1 rfl)
  | false => exact iteF (h2 rfl)
end FL
namespace FL
open PySem PySem.Spec PyProof.Rows L2
/-! ## data: lists of ints, lists of lists of ints -/
def D1 (ns : List Int) : PyData := .list (ns.map PyData.int)
def D2 (nss : List (List Int)) : PyData := .list (nss.map D1)
def DB (bs : List Bool) : PyData := .list (bs.map PyData.bool)
theorem eqv_D1s : ∀ ns ms : List Int, PyData.eqvAll (ns.map PyData.int) (ms.map PyData.int) = decide (ns = ms)
  | [], [] => by simp [PyData.eqvAll]
  | [], _ :: _ => by simp [PyData.eqvAll]
  | _ :: _, [] => by simp [PyData.eqvAll]
  | x :: xs, y :: ys => by
    rw [List.map_cons, List.map_cons, PyData.eqvAll, eqv_D1s xs ys, PyData.eqv]
    by_cases e : x = y
    · by_cases f : xs = ys
      · simp [e, f]
      · simp [e, f]
    · simp [e]
theorem eqv_D1 (ns ms : List Int) : PyData.eqv (D1 ns) (D1 ms) = decide (ns = ms) := by
  unfold D1
  rw [PyData.eqv]
  exact eqv_D1s ns ms
theorem eqv_D2s : ∀ ns ms : List (List Int), PyData.eqvAll (ns.map D1) (ms.map D1) = decide (ns = ms)
  | [], [] => by simp [PyData.eqvAll]
  | [], _ :: _ => by simp [PyData.eqvAll]
  | _ :: _, [] => by simp [PyData.eqvAll]
  | x :: xs, y :: ys => by
    rw [List.map_cons, List.map_cons, PyData.eqvAll, eqv_D2s xs ys, eqv_D1]
    by_cases e : x = y
    · by_cases f : xs = ys
      · simp [e, f]
      · simp [e, f]
    · simp [e]
theorem eqv_D2 (ns ms : List (List Int)) : PyData.eqv (D2 ns) (D2 ms) = decide (ns = ms) := by
  unfold D2
  rw [PyData.eqv]
  exact eqv_D2s ns ms
theorem eqv_DBs : ∀ ns ms : List Bool, PyData.eqvAll (ns.map PyData.bool) (ms.map PyData.bool) = decide (ns = ms)
  | [], [] => by simp [PyData.eqvAll]
  | [], _ :: _ => by simp [PyData.eqvAll]
  | _ :: _, [] => by simp [PyData.eqvAll]
  | x :: xs, y :: ys => by
    rw [List.map_cons, List.map_cons, PyData.eqvAll, eqv_DBs xs ys, PyData.eqv]
    by_cases e : x = y
    · by_cases f : xs = ys
      · simp [e, f]
      · simp [e, f]
    · simp [e]
theorem eqv_DB (ns ms : List Bool) : PyData.eqv (DB ns) (DB ms) = decide (ns = ms) := by
  unfold DB
  rw [PyData.eqv]
  exact eqv_DBs ns ms
theorem lay_D1s : ∀ ns : List Int, PyData.canLayAll0 (ns.map PyData.int) = true
  | [] => rfl
  | x :: xs => by
    rw [List.map_cons, PyData.canLayAll0, lay_D1s xs, PyData.canLay0]
    rfl
theorem depth_D1s : ∀ ns : List Int, PyData.depthAll (ns.map PyData.int) = 0
  | [] => rfl
  | x :: xs => by
    rw [List.map_cons, PyData.depthAll, depth_D1s xs, PyData.depth]
    rfl
theorem shaped_D1 (ns : List Int) : SeqAt.shaped (D1 ns) = true := by
  unfold SeqAt.shaped D1
  rw [PyData.canLay0, PyData.depth, lay_D1s, depth_D1s]
  rfl
theorem lay_DBs : ∀ ns : List Bool, PyData.canLayAll0 (ns.map PyData.bool) = true
  | [] => rfl
  | x :: xs => by
    rw [List.map_cons, PyData.canLayAll0, lay_DBs xs, PyData.canLay0]
    rfl
theorem depth_DBs : ∀ ns : List Bool, PyData.depthAll (ns.map PyData.bool) = 0
  | [] => rfl
  | x :: xs => by
    rw [List.map_cons, PyData.depthAll, depth_DBs xs, PyData.depth]
    rfl
theorem shaped_DB (ns : List Bool) : SeqAt.shaped (DB ns) = true := by
  unfold SeqAt.shaped DB
  rw [PyData.canLay0, PyData.depth, lay_DBs, depth_DBs]
  rfl
theorem lay_D2s : ∀ ns : List (List Int), PyData.canLayAll0 (ns.map D1) = true
  | [] => rfl
  | x :: xs => by
    rw [List.map_cons, PyData.canLayAll0, lay_D2s xs]
    unfold D1
    rw [PyData.canLay0, lay_D1s]
    rfl
theorem depth_D2s : ∀ ns : List (List Int), PyData.depthAll (ns.map D1) ≤ 1
  | [] => Nat.zero_le _
  | x :: xs => by
    have h := depth_D2s xs
    rw [List.map_cons, PyData.depthAll]
    unfold D1
    rw [PyData.depth, depth_D1s]
    unfold D1 at h
    omega
theorem shaped_D2 (ns : List (List Int)) : SeqAt.shaped (D2 ns) = true := by
  unfold SeqAt.shaped D2
  rw [PyData.canLay0, PyData.depth, lay_D2s]
  have h := depth_D2s ns
  simp
  omega
section
variable {K : PySem.W.Frag} {H : Hp}
theorem dp_ints : ∀ ns : List Int, DpAll K H (ns.map V.int) (ns.map PyData.int)
  | [] => .nil
  | x :: xs => .cons (.int x) (dp_ints xs)
theorem dp_bls : ∀ ns : List Bool, DpAll K H (ns.map V.bl) (ns.map PyData.bool)
  | [] => .nil
  | x :: xs => .cons (.bl x) (dp_bls xs)
theorem dp_D1 {p : Addr} {ns : List Int} (h : SqL K H p (ns.map V.int)) : Dp K H (.ref p) (D1 ns) := .lst h (dp_ints ns)
theorem dp_DB {p : Addr} {ns : List Bool} (h : SqL K H p (ns.map V.bl)) : Dp K H (.ref p) (DB ns) := .lst h (dp_bls ns)
/-- a list of lists: the items one by one -/
theorem dp_D2 {p : Addr} {vs : List V} {nss : List (List Int)} (h : SqL K H p vs) (a : DpAll K H vs (nss.map D1)) : Dp K H (.ref p) (D2 nss) := .lst h a
theorem eq1 {Q : VK} {p q : Addr} {ns ms : List Int} (h1 : SqL K H p (ns.map V.int)) (h2 : SqL K H q (ms.map V.int)) (k : Q (.bl (decide (ns = ms))) H) : rEqD K (.ref p) (.ref q) H Q :=
  ⟨_, _, dp_D1 h1, dp_D1 h2, shaped_D1 _, shaped_D1 _, by rw [eqv_D1]; exact k⟩
theorem ne1 {Q : VK} {p q : Addr} {ns ms : List Int} (h1 : SqL K H p (ns.map V.int)) (h2 : SqL K H q (ms.map V.int)) (k : Q (.bl (!decide (ns = ms))) H) : rNeD K (.ref p) (.ref q) H Q :=
  ⟨_, _, dp_D1 h1, dp_D1 h2, shaped_D1 _, shaped_D1 _, by rw [eqv_D1]; exact k⟩
theorem eqB {Q : VK} {p q : Addr} {ns ms : List Bool} (h1 : SqL K H p (ns.map V.bl)) (h2 : SqL K H q (ms.map V.bl)) (k : Q (.bl (decide (ns = ms))) H) : rEqD K (.ref p) (.ref q) H Q :=
  ⟨_, _, dp_DB h1, dp_DB h2, shaped_DB _, shaped_DB _, by rw [eqv_DB]; exact k⟩
theorem neB {Q : VK} {p q : Addr} {ns ms : List Bool} (h1 : SqL K H p (ns.map V.bl)) (h2 : SqL K H q (ms.map V.bl)) (k : Q (.bl (!decide (ns = ms))) H) : rNeD K (.ref p) (.ref q) H Q :=
  ⟨_, _, dp_DB h1, dp_DB h2, shaped_DB _, shaped_DB _, by rw [eqv_DB]; exact k⟩
theorem eq2 {Q : VK} {p q : Addr} {vs us : List V} {ns ms : List (List Int)} (h1 : SqL K H p vs) (a1 : DpAll K H vs (ns.map D1)) (h2 : SqL K H q us) (a2 : DpAll K H us (ms.map D1)) (k : Q (.bl (decide (ns = ms))) H) : rEqD K (.ref p) (.ref q) H Q :=
  ⟨_, _, dp_D2 h1 a1, dp_D2 h2 a2, shaped_D2 _, shaped_D2 _, by rw [eqv_D2]; exact k⟩
theorem ne2 {Q : VK} {p q : Addr} {vs us : List V} {ns ms : List (List Int)} (h1 : SqL K H p vs) (a1 : DpAll K H vs (ns.map D1)) (h2 : SqL K H q us) (a2 : DpAll K H us (ms.map D1)) (k : Q (.bl (!decide (ns = ms))) H) : rNeD K (.ref p) (.ref q) H Q :=
  ⟨_, _, dp_D2 h1 a1, dp_D2 h2 a2, shaped_D2 _, shaped_D2 _, by rw [eqv_D2]; exact k⟩
end
section
variable {K : PySem.W.Frag} {H : Hp}
theorem eq1E {Q : VK} {p q : Addr} {ns : List Int} (h1 : SqL K H p (ns.map V.int)) (h2 : SqL K H q (ns.map V.int)) (k : Q (.bl true) H) : rEqD K (.ref p) (.ref q) H Q := eq1 h1 h2 (by rw [decide_eq_true rfl]; exact k)
theorem ne1E {Q : VK} {p q : Addr} {ns : List Int} (h1 : SqL K H p (ns.map V.int)) (h2 : SqL K H q (ns.map V.int)) (k : Q (.bl false) H) : rNeD K (.ref p) (.ref q) H Q := ne1 h1 h2 (by rw [decide_eq_true rfl]; exact k)
theorem eq2E {Q : VK} {p q : Addr} {vs us : List V} {ns : List (List Int)} (h1 : SqL K H p vs) (a1 : DpAll K H vs (ns.map D1)) (h2 : SqL K H q us) (a2 : DpAll K H us (ns.map D1)) (k : Q (.bl true) H) : rEqD K (.ref p) (.ref q) H Q :=
  eq2 h1 a1 h2 a2 (by rw [decide_eq_true rfl]; exact k)
theorem ne2E {Q : VK} {p q : Addr} {vs us : List V} {ns : List (List Int)} (h1 : SqL K H p vs) (a1 : DpAll K H vs (ns.map D1)) (h2 : SqL K H q us) (a2 : DpAll K H us (ns.map D1)) (k : Q (.bl false) H) : rNeD K (.ref p) (.ref q) H Q :=
  ne2 h1 a1 h2 a2 (by rw [decide_eq_true rfl]; exact k)
end
/-! ## the ints 1 .. n -/
def upto (n : Nat) : List Int := (List.range n).map fun (i : Nat) => 1 + (i : Int)
theorem upto_length (n : Nat) : (upto n).length = n := by unfold upto; rw [List.length_map, List.length_range]
theorem rgV_upto (n : Nat) (b : Int) (e : b = (n : Int) + 1) : rgV 1 b = (upto n).map V.int := by
  unfold rgV upto
  have e2 : (b - 1).toNat = n := by omega
  rw [e2, List.map_map]
  rfl
theorem upto_get {n i : Nat} (h : i < n) : (upto n)[i]? = some (1 + (i : Int)) := by
  unfold upto
  rw [List.getElem?_map, List.getElem?_range h]
  rfl
theorem upto_sorted (n : Nat) : (upto n).Pairwise (· ≤ ·) := by
  unfold upto
  rw [List.pairwise_map]
  exact List.Pairwise.imp (fun h => by omega) List.pairwise_lt_range
theorem upto_lt (n : Nat) : (upto n).Pairwise (· < ·) := by
  unfold upto
  rw [List.pairwise_map]
  exact List.Pairwise.imp (fun h => by omega) List.pairwise_lt_range
theorem upto_nodup (n : Nat) : (upto n).Nodup := List.Pairwise.imp (fun h => by omega) (upto_lt n)
theorem upto_mem {n : Nat} {x : Int} : x ∈ upto n ↔ 1 ≤ x ∧ x ≤ n := by
  unfold upto
  rw [List.mem_map]
  constructor
  · rintro ⟨i, hi, rfl⟩
    have := List.mem_range.mp hi
    omega
  · rintro ⟨h1, h2⟩
    exact ⟨(x - 1).toNat, List.mem_range.mpr (by omega), by omega⟩
theorem sorted_unique : ∀ {l m : List Int}, l.Perm m → l.Pairwise (· ≤ ·) → m.Pairwise (· ≤ ·) → l = m
  | [], m, p, _, _ => (List.Perm.nil_eq p)
  | x :: l, [], p, _, _ => absurd p.length_eq (by simp)
  | x :: l, y :: m, p, h1, h2 => by
    have hx := List.pairwise_cons.mp h1
    have hy := List.pairwise_cons.mp h2
    have e : x = y := by
      have mx : x ∈ y :: m := p.mem_iff.mp List.mem_cons_self
      have my : y ∈ x :: l := p.mem_iff.mpr List.mem_cons_self
      rcases List.mem_cons.mp mx with e | mx
      · exact e
      · rcases List.mem_cons.mp my with e | my
        · exact e.symm
        · have a := hy.1 x mx
          have b := hx.1 y my
          omega
    subst e
    rw [sorted_unique (List.Perm.cons_inv p) hx.2 hy.2]
/-- a plain pile -/
def IsPile (ns : List Int) : Prop := 1 ≤ ns.length ∧ ns.length ≤ 12 ∧ ns.Perm (upto ns.length)
theorem IsPile.mem {ns : List Int} (h : IsPile ns) {x : Int} : x ∈ ns ↔ 1 ≤ x ∧ x ≤ ns.length := h.2.2.mem_iff.trans upto_mem
theorem IsPile.nodup {ns : List Int} (h : IsPile ns) : ns.Nodup := h.2.2.nodup_iff.mpr (upto_nodup _)
def iabs (x : Int) : Int := if x < 0 then -x else x
theorem iabs_neg (x : Int) : iabs (-x) = iabs x := by
  unfold iabs
  split <;> split <;> omega
theorem iabs_nn (x : Int) : 0 ≤ iabs x := by
  unfold iabs
  split <;> omega
theorem iabs_cases (x : Int) : x = iabs x ∨ x = -iabs x := by
  unfold iabs
  split <;> omega
theorem iabs_pos {x : Int} (h : 0 ≤ x) : iabs x = x := by
  unfold iabs
  split <;> omega
def IsBurnt (ns : List Int) : Prop := IsPile (ns.map iabs)
theorem IsPile.abs {ns : List Int} (h : IsPile ns) : ns.map iabs = ns := by
  have : ns.map iabs = ns.map id := List.map_congr_left fun x hx => iabs_pos (by have := (h.mem.mp hx).1; omega)
  rw [this, List.map_id]
theorem signed_burnt {ns bs : List Int} (h : IsPile ns) (e : bs.map iabs = ns.map iabs) : IsBurnt bs := by
  unfold IsBurnt
  rw [e, h.abs]
  exact h
theorem burnt_len {bs : List Int} (h : IsBurnt bs) : 1 ≤ bs.length ∧ bs.length ≤ 12 := by
  have h1 := h.1
  have h2 := h.2.1
  rw [List.length_map] at h1 h2
  exact ⟨h1, h2⟩
theorem burnt_mem {bs : List Int} (h : IsBurnt bs) {x : Int} (hx : x ∈ bs) : -12 ≤ x ∧ x ≤ 12 := by
  have := (IsPile.mem h).mp (List.mem_map_of_mem (f := iabs) hx)
  have h2 := (burnt_len h).2
  rw [List.length_map] at this
  have := iabs_cases x
  omega
/-- what an exception's class is -/
structure Exn (K : PySem.W.Frag) (mg : Str → Option Value) (x : Str) (C : Addr) : Prop where
  g : mg x = some (.ref C)
  x : PySem.W.excIn K C [.type "ValueError", .type "Exception", .type "BaseException", .type "object"] "ValueError.__new__" = true
  k : PySem.W.keepIn K (.ref C) = true
  b : PySem.W.subIn K (.ref C) (.type "BaseException") = some true
  t : PySem.W.typeIn K (.ref C) = some (.type "type")
structure ExA where
  FlipError : Addr
  NoPile : Addr
  NoTurn : Addr
  TooTall : Addr
  NoBack : Addr
  BadLine : Addr
  Stack : Addr
/-- a promise's answer: a new list of ints -/
def RL (H : Hp) (ns : List Int) (Q : VK) : Prop := ∀ (p : Addr) (H' : Hp), Same H H' → H p = none → H' p = some (.lst (ns.map V.int)) → Q (.ref p) H'
/-- an answer that is a value, or nothing -/
def RV (H : Hp) (v : V) (Q : VK) : Prop := ∀ H' : Hp, Same H H' → Q v H'
def RX (H : Hp) (C : Addr) (E : XK) : Prop := ∀ H' : Hp, Same H H' → E (.ref C) none H'
theorem getInt {ns : List Int} {i : Nat} {y : V} (h : (ns.map V.int)[i]? = some y) : ∃ z, ns[i]? = some z ∧ y = V.int z ∧ i < ns.length := by
  rw [List.getElem?_map] at h
  cases e : ns[i]? with
  | none =>
    rw [e] at h
    cases h
  | some z =>
    rw [e] at h
    exact ⟨z, rfl, (Option.some.inj h).symm, (List.getElem?_eq_some_iff.mp e).1⟩
theorem setInt {ns : List Int} {i : Nat} {z : Int} (h : ns[i]? = some z) : (ns.map V.int)[i]? = some (V.int z) := by
  rw [List.getElem?_map, h]
  rfl
def pflip (ns : List Int) (k : Nat) : List Int := (ns.take k).reverse ++ ns.drop k
theorem pflip_length (ns : List Int) (k : Nat) : (pflip ns k).length = ns.length := by
  unfold pflip
  rw [List.length_append, List.length_reverse, List.length_take, List.length_drop]
  omega
theorem pflip_perm (ns : List Int) (k : Nat) : (pflip ns k).Perm ns := by
  unfold pflip
  exact ((List.reverse_perm _).append_right _).trans (by rw [List.take_append_drop])
def bflip (ns : List Int) (k : Nat) : List Int := (ns.take k).reverse.map (fun x => -x) ++ ns.drop k
theorem bflip_length (ns : List Int) (k : Nat) : (bflip ns k).length = ns.length := by
  unfold bflip
  rw [List.length_append, List.length_map, List.length_reverse, List.length_take, List.length_drop]
  omega
theorem signed_len {ns bs : List Int} (e : bs.map iabs = ns.map iabs) : bs.length = ns.length := by
  have := congrArg List.length e
  rw [List.length_map, List.length_map] at this
  exact this
theorem pflip_pile {ns : List Int} {k : Nat} (h : IsPile ns) : IsPile (pflip ns k) := by
  unfold IsPile
  rw [pflip_length]
  exact ⟨h.1, h.2.1, (pflip_perm ns k).trans h.2.2⟩
theorem bflip_abs (ns : List Int) (k : Nat) : (bflip ns k).map iabs = pflip (ns.map iabs) k := by
  have e : (ns.take k).reverse.map (iabs ∘ fun x => -x) = (ns.take k).reverse.map iabs := List.map_congr_left fun x _ => iabs_neg x
  unfold bflip pflip
  rw [List.map_append, List.map_map, e, List.map_reverse, List.map_take, List.map_drop]
theorem bflip_burnt {ns : List Int} {k : Nat} (h : IsBurnt ns) : IsBurnt (bflip ns k) := by
  unfold IsBurnt
  rw [bflip_abs]
  exact pflip_pile h
def tflip (b : Bool) (ns : List Int) (k : Nat) : List Int := if b = true then bflip ns k else pflip ns k
theorem tflip_length (b : Bool) (ns : List Int) (k : Nat) : (tflip b ns k).length = ns.length := by
  unfold tflip
  split
  · exact bflip_length ns k
  · exact pflip_length ns k
theorem turned_eq (b : Bool) (ns : List Int) (k : Nat) (h : k ≤ ns.length) :
    (List.range k).map (fun j => V.int ((if b = true then -1 else 1) * ns.getD (k - 1 - j) 0)) ++ (ns.drop k).map V.int = (tflip b ns k).map V.int := by
  have key : ∀ f : Int → Int, (∀ x, (if b = true then -1 else 1) * x = f x) → (List.range k).map (fun j => V.int ((if b = true then -1 else 1) * ns.getD (k - 1 - j) 0)) = ((ns.take k).reverse.map f).map V.int := by
    intro f hf
    apply List.ext_getElem?
    intro i
    by_cases hi : i < k
    · have h1 : k - 1 - i < ns.length := by omega
      rw [List.getElem?_map, List.getElem?_range hi, List.getElem?_map, List.getElem?_map, List.getElem?_reverse (by rw [List.length_take]; omega), List.length_take, Nat.min_eq_left h, List.getElem?_take, if_pos (show k - 1 - i < k by omega),
        List.getElem?_eq_getElem h1, Option.map_some, Option.map_some, Option.map_some, List.getD_eq_getElem?_getD, List.getElem?_eq_getElem h1, hf]
      rfl
    · rw [List.getElem?_eq_none (by rw [List.length_map, List.length_range]; omega), List.getElem?_eq_none (by rw [List.length_map, List.length_map, List.length_reverse, List.length_take]; omega)]
  unfold tflip
  cases b with
  | true =>
    rw [key (fun x => -x) (fun x => by simp), if_pos rfl, bflip, List.map_append]
  | false =>
    rw [key (fun x => x) (fun x => by simp), if_neg Bool.false_ne_true, pflip, List.map_append, List.map_id']
def sp_law (K : PySem.W.Frag) : Sp := fun vs H Q _ => ∃ (a : Addr) (ns : List Int), vs = [.ref a] ∧ SqL K H a (ns.map V.int) ∧ ns.length ≤ 63 ∧ ∀ H', Q (.bl true) H'
theorem arg3 {a z : V} {x y : Int} (e : x = y) : [a, V.int x, z] = [a, V.int y, z] := by rw [e]
end FL
namespace FL
open PySem PySem.Spec PyProof.Rows L2
open Evl (given given_yes given_no given_len)
/-! ## what is walked, over a heap of which a part stays -/
structure ItIs (J : It) (n : Nat) (y : Nat → V) (H1 : Hp) : Prop where
  go : ∀ i H, Same H1 H → i < n → J.go i H
  stop : ∀ i H, Same H1 H → n ≤ i → J.stop i H
  yld : ∀ i H x H', Same H1 H → i < n → J.yld i H x H' → H' = H ∧ x = y i
theorem itl {K : PySem.W.Frag} {a : Addr} {xs : List V} {H1 : Hp} (h : SqL K H1 a xs) : ItIs (Itl K a) xs.length (fun i => xs.getD i .non) H1 where
  go := fun i H s hi => ⟨xs, xs[i], s.seq h, by simp [hi]⟩
  stop := fun i H s hi => ⟨xs, s.seq h, hi⟩
  yld := fun i H x H' s hi y => ⟨y.1, by
    have e := y.2 xs (s.seq h)
    rw [List.getD_eq_getElem?_getD, e]
    rfl⟩
theorem itl_ints {K : PySem.W.Frag} {a : Addr} {ns : List Int} {H1 : Hp} (h : SqL K H1 a (ns.map V.int)) : ItIs (Itl K a) ns.length (fun i => V.int (ns.getD i 0)) H1 where
  go := fun i H s hi => ⟨_, V.int ns[i], s.seq h, by simp [hi]⟩
  stop := fun i H s hi => ⟨_, s.seq h, by rw [List.length_map]; exact hi⟩
  yld := fun i H x H' s hi y => ⟨y.1, by
    have e := y.2 _ (s.seq h)
    rw [List.getElem?_map, List.getElem?_eq_getElem hi] at e
    rw [List.getD_eq_getElem?_getD, List.getElem?_eq_getElem hi]
    exact (Option.some.inj e).symm⟩
theorem itv_ints {K : PySem.W.Frag} {a : Addr} {ns : List Int} {m : Nat} {H1 : Hp} (h : SqL K H1 a (ns.map V.int)) (hm : m = ns.length) : ItIs (Itv K a m) ns.length (fun i => V.int (ns.reverse.getD i 0)) H1 where
  go := fun i H s hi => ⟨by omega, _, V.int (ns[ns.length - 1 - i]'(by omega)), s.seq h, by
    rw [hm]
    simp [show ns.length - 1 - i < ns.length by omega]⟩
  stop := fun i H s hi => by
    show m ≤ i
    omega
  yld := fun i H x H' s hi y => ⟨y.1, by
    have hj : ns.length - 1 - i < ns.length := by omega
    have e := y.2 _ (s.seq h)
    rw [hm, List.getElem?_map, List.getElem?_eq_getElem hj] at e
    rw [List.getD_eq_getElem?_getD, List.getElem?_reverse hi, List.getElem?_eq_getElem hj]
    exact (Option.some.inj e).symm⟩
theorem itr {lo : Int} {n : Nat} {H1 : Hp} : ItIs (Itr lo n) n (fun i => .int (lo + (i : Nat))) H1 where
  go := fun i H s hi => hi
  stop := fun i H s hi => hi
  yld := fun i H x H' s hi y => y
theorem itc {lo c : Int} {n : Nat} {H1 : Hp} : ItIs (Itc lo c n) n (fun i => .int (lo + (i : Nat) * c)) H1 where
  go := fun i H s hi => hi
  stop := fun i H s hi => hi
  yld := fun i H x H' s hi y => y
/-- a for -/
theorem for_it {J : It} {n : Nat} {y : Nat → V} {H1 : Hp} {g : TG} {tb : TS} {D : Ends} {σ : L2.St} {H : Hp} (I : ItIs J n y H1) (Pv : Nat → L2.St → Hp → Prop) (h0 : Pv 0 σ H) (hS : ∀ i σ H, Pv i σ H → Same H1 H)
    (hs : ∀ i σ H, i < n → Pv i σ H → g (y i) σ H fun σ2 H2 => tb { D with nx := Pv (i + 1), ct := Pv (i + 1), bk := D.nx } σ2 H2) (hd : ∀ σ H, Pv n σ H → D.nx σ H) :
    ∃ W : Nat → Nat → L2.St → Hp → Prop, (∃ m, W 0 m σ H) ∧ ∀ i m σ H, W i m σ H →
      (J.stop i H ∧ D.nx σ H) ∨ (J.go i H ∧ ∃ N : L2.St → Hp → Prop, (∀ σ' H', N σ' H' → ∃ m', m' < m ∧ W (i + 1) m' σ' H') ∧ ∀ v H', J.yld i H v H' → g v σ H' fun σ2 H2 => tb { D with nx := N, ct := N, bk := D.nx } σ2 H2) := by
  refine ⟨fun i m σ H => m = n - i ∧ i ≤ n ∧ Pv i σ H, ⟨n, rfl, Nat.zero_le _, h0⟩, ?_⟩
  rintro i m σ H ⟨rfl, hi, p⟩
  by_cases hlt : i < n
  · refine .inr ⟨I.go i H (hS _ _ _ p) hlt, Pv (i + 1), fun σ' H' p' => ⟨n - (i + 1), by omega, rfl, hlt, p'⟩, fun v H' yy => ?_⟩
    obtain ⟨e, e2⟩ := I.yld i H v H' (hS _ _ _ p) hlt yy
    subst e e2
    exact hs i σ _ hlt p
  · have e : i = n := by omega
    subst e
    exact .inl ⟨I.stop _ H (hS _ _ _ p) (Nat.le_refl _), hd σ H p⟩
theorem given_all (n : Nat) (v : Nat → V) : given n (fun _ => true) v = (List.range n).map v := by
  unfold given
  rw [List.filter_eq_self.mpr (fun _ _ => rfl)]
theorem given_ints (ns : List Int) (f : Int → Int) : given ns.length (fun _ => true) (fun j => V.int (f (ns.getD j 0))) = (ns.map f).map V.int := by
  rw [given_all]
  apply List.ext_getElem?
  intro i
  by_cases h : i < ns.length
  · rw [List.getElem?_map, List.getElem?_range h, List.getElem?_map, List.getElem?_map, List.getElem?_eq_getElem h, Option.map_some, Option.map_some, Option.map_some, List.getD_eq_getElem?_getD, List.getElem?_eq_getElem h]
    rfl
  · rw [List.getElem?_eq_none (by rw [List.length_map, List.length_range]; omega), List.getElem?_eq_none (by rw [List.length_map, List.length_map]; omega)]
/-- a comprehension, its name in slot k -/
theorem lc_it {J : It} {n : Nat} {y : Nat → V} {H1 Hs : Hp} {k : Nat} {tt : TT} {te : TE} {σ : L2.St} {D : Addr} {Qd : Hp → Prop} (I : ItIs J n y H1) (hD : Hs D = none) (s0 : Same H1 Hs) (hn : n ≤ 100000) (b : Nat → Bool) (r : Nat → V)
    (ht : ∀ (j : Nat) (H : Hp) (Q : Bool → Hp → Prop), j < n → Same Hs H → (∀ H', Same H H' → Q (b j) H') → tt (σ.set k (some (y j))) H Q)
    (he : ∀ (j : Nat) (H : Hp) (Q : VK), j < n → b j = true → Same Hs H → (∀ H', Same H H' → Q (r j) H') → te (σ.set k (some (y j))) H Q)
    (hd : ∀ H', Same Hs H' → H' D = some (.lst (given n b r)) → Qd H') :
    ∃ W : Nat → Nat → Hp → Prop, (∃ m, W 0 m (upd Hs D (.lst []))) ∧ ∀ i m H, W i m H →
      (J.stop i H ∧ Qd H) ∨ (J.go i H ∧ ∃ Nx : Hp → Prop, (∀ H', Nx H' → ∃ m', m' < m ∧ W (i + 1) m' H') ∧ ∀ x H', J.yld i H x H' → gName k x (wipe σ [k]) H' fun σ2 H2 => wipe σ2 [k] = wipe σ [k] ∧ tt σ2 H2 fun b H3 =>
        if b = true then te σ2 H3 fun y H4 => ∃ acc, H4 D = some (.lst acc) ∧ acc.length < sizeLine ∧ Nx (upd H4 D (.lst (acc ++ [y]))) else Nx H3) := by
  have ew : ∀ v : Option V, (wipe σ [k]).set k v = σ.set k v := fun v => by
    show (σ.set k none).set k v = σ.set k v
    rw [List.set_set]
  refine ⟨fun i m H => m = n - i ∧ i ≤ n ∧ Same Hs H ∧ H D = some (.lst (given i b r)), ⟨n, rfl, Nat.zero_le _, same_new (Same.refl _) hD, upd_same⟩, ?_⟩
  rintro i m H ⟨rfl, hi, sH, hL⟩
  by_cases hlt : i < n
  · refine .inr ⟨I.go i H (s0.trans sH) hlt, fun H' => Same Hs H' ∧ H' D = some (.lst (given (i + 1) b r)), fun H' p' => ⟨n - (i + 1), by omega, rfl, hlt, p'⟩, fun v H' yy => ?_⟩
    obtain ⟨e, e2⟩ := I.yld i H v H' (s0.trans sH) hlt yy
    subst e e2
    unfold gName
    rw [ew]
    refine ⟨by show (σ.set k (some (y i))).set k none = σ.set k none; rw [List.set_set], ht i H' _ hlt sH fun H2 s2 => ?_⟩
    cases hb : b i with
    | true =>
      refine iteT (he i H2 _ hlt hb (sH.trans s2) fun H3 s3 => ?_)
      refine ⟨given i b r, s3 _ _ (s2 _ _ hL), len_small' (by have := given_len i b r; omega), same_mut ((sH.trans s2).trans s3) hD, ?_⟩
      rw [given_yes hb]
      exact upd_same
    | false =>
      refine iteF ⟨sH.trans s2, ?_⟩
      rw [given_no hb]
      exact s2 _ _ hL
  · have e : i = n := by omega
    subst e
    exact .inl ⟨I.stop _ H (s0.trans sH) (Nat.le_refl _), hd H sH hL⟩
/-- no test -/
theorem lc_yes {J : It} {n : Nat} {y : Nat → V} {H1 Hs : Hp} {k : Nat} {te : TE} {σ : L2.St} {D : Addr} {Qd : Hp → Prop} (I : ItIs J n y H1) (hD : Hs D = none) (s0 : Same H1 Hs) (hn : n ≤ 100000) (r : Nat → V)
    (he : ∀ (j : Nat) (H : Hp) (Q : VK), j < n → Same Hs H → (∀ H', Same H H' → Q (r j) H') → te (σ.set k (some (y j))) H Q)
    (hd : ∀ H', Same Hs H' → H' D = some (.lst ((List.range n).map r)) → Qd H') :
    ∃ W : Nat → Nat → Hp → Prop, (∃ m, W 0 m (upd Hs D (.lst []))) ∧ ∀ i m H, W i m H →
      (J.stop i H ∧ Qd H) ∨ (J.go i H ∧ ∃ Nx : Hp → Prop, (∀ H', Nx H' → ∃ m', m' < m ∧ W (i + 1) m' H') ∧ ∀ x H', J.yld i H x H' → gName k x (wipe σ [k]) H' fun σ2 H2 => wipe σ2 [k] = wipe σ [k] ∧ tYes σ2 H2 fun b H3 =>
        if b = true then te σ2 H3 fun y H4 => ∃ acc, H4 D = some (.lst acc) ∧ acc.length < sizeLine ∧ Nx (upd H4 D (.lst (acc ++ [y]))) else Nx H3) :=
  lc_it I hD s0 hn (fun _ => true) r (fun _ H Q _ _ q => q H (Same.refl H)) (fun j H Q h1 _ h2 q => he j H Q h1 h2 q) fun H' s h => hd H' s (by rw [← given_all]; exact h)
theorem map_ints (ns : List Int) (f : Int → Int) : (List.range ns.length).map (fun j => V.int (f (ns.getD j 0))) = (ns.map f).map V.int := by
  rw [← given_all]
  exact given_ints ns f
theorem itv_rev {K : PySem.W.Frag} {a : Addr} {ns : List Int} {m : Nat} {H1 : Hp} (h : SqL K H1 a (ns.map V.int)) (hm : m = ns.length) : ItIs (Itv K a m) ns.reverse.length (fun i => V.int (ns.reverse.getD i 0)) H1 := by
  rw [List.length_reverse]
  exact itv_ints h hm
/-- an element of each int of a list, the ints of the answer told -/
theorem lc_map {J : It} {ns : List Int} {H1 Hs : Hp} {k : Nat} {te : TE} {σ : L2.St} {D : Addr} {Qd : Hp → Prop} (I : ItIs J ns.length (fun i => V.int (ns.getD i 0)) H1) (hD : Hs D = none) (s0 : Same H1 Hs) (hn : ns.length ≤ 100000) (f : Int → Int)
    (he : ∀ (x : Int) (H : Hp) (Q : VK), x ∈ ns → Same Hs H → (∀ H', Same H H' → Q (.int (f x)) H') → te (σ.set k (some (.int x))) H Q)
    (hd : ∀ H', Same Hs H' → H' D = some (.lst ((ns.map f).map V.int)) → Qd H') :
    ∃ W : Nat → Nat → Hp → Prop, (∃ m, W 0 m (upd Hs D (.lst []))) ∧ ∀ i m H, W i m H →
      (J.stop i H ∧ Qd H) ∨ (J.go i H ∧ ∃ Nx : Hp → Prop, (∀ H', Nx H' → ∃ m', m' < m ∧ W (i + 1) m' H') ∧ ∀ x H', J.yld i H x H' → gName k x (wipe σ [k]) H' fun σ2 H2 => wipe σ2 [k] = wipe σ [k] ∧ tYes σ2 H2 fun b H3 =>
        if b = true then te σ2 H3 fun y H4 => ∃ acc, H4 D = some (.lst acc) ∧ acc.length < sizeLine ∧ Nx (upd H4 D (.lst (acc ++ [y]))) else Nx H3) :=
  lc_yes I hD s0 hn (fun j => V.int (f (ns.getD j 0))) (fun j H Q hj s q => he _ H Q (by
    rw [List.getD_eq_getElem?_getD, List.getElem?_eq_getElem hj]
    exact List.getElem_mem hj) s q) fun H' s e => hd H' s (by rw [← map_ints]; exact e)
/-- slices of lists -/
theorem cut_to (xs : List V) (k : Nat) : cutV xs none (some (k : Int)) = xs.take k := by
  unfold cutV
  rw [HT.sIx_nat, HT.sIx_none, List.drop_zero, Nat.sub_zero]
  rcases Nat.le_total k xs.length with h | h
  · rw [Nat.min_eq_left h]
  · rw [Nat.min_eq_right h, List.take_of_length_le (Nat.le_refl _), List.take_of_length_le h]
theorem cut_from (xs : List V) (k : Nat) : cutV xs (some (k : Int)) none = xs.drop k := by
  unfold cutV
  rw [HT.sIx_nat, HT.sIx_none]
  rcases Nat.le_total k xs.length with h | h
  · rw [Nat.min_eq_left h, List.take_of_length_le (by rw [List.length_drop]; omega)]
  · rw [Nat.min_eq_right h, List.drop_of_length_le (Nat.le_refl _), List.drop_of_length_le h]
    simp
theorem cut_mid (xs : List V) (j k : Nat) : cutV xs (some (j : Int)) (some (k : Int)) = (xs.drop j).take (k - j) := by
  unfold cutV
  rw [HT.sIx_nat, HT.sIx_nat]
  rcases Nat.le_total j xs.length with h | h
  · rw [Nat.min_eq_left h]
    rcases Nat.le_total k xs.length with h2 | h2
    · rw [Nat.min_eq_left h2]
    · rw [Nat.min_eq_right h2, List.take_of_length_le (by rw [List.length_drop] <;> omega), List.take_of_length_le (by rw [List.length_drop]; omega)]
  · rw [Nat.min_eq_right h, List.drop_of_length_le (Nat.le_refl _), List.drop_of_length_le h]
    simp
theorem cutI_to (ns : List Int) (k : Nat) : cutV (ns.map V.int) none (some (k : Int)) = (ns.take k).map V.int := by rw [cut_to, List.map_take]
theorem cutI_from (ns : List Int) (k : Nat) : cutV (ns.map V.int) (some (k : Int)) none = (ns.drop k).map V.int := by rw [cut_from, List.map_drop]
theorem take_snoc {ts : List Int} {i : Nat} (h : i < ts.length) : ts.take (i + 1) = ts.take i ++ [ts.getD i 0] := by
  rw [List.take_succ, List.getElem?_eq_getElem h, List.getD_eq_getElem?_getD, List.getElem?_eq_getElem h]
  rfl
theorem getD_at {ns : List Int} {i : Nat} (h : i < ns.length) : ns[i]? = some (ns.getD i 0) := by
  rw [List.getD_eq_getElem?_getD, List.getElem?_eq_getElem h] <;> rfl
theorem getD_in {ns : List Int} {i : Nat} (h : i < ns.length) : ns.getD i 0 ∈ ns := by
  rw [List.getD_eq_getElem?_getD, List.getElem?_eq_getElem h]
  exact List.getElem_mem h
theorem arg2 {a : V} {x y : Int} (e : x = y) : [a, V.int x] = [a, V.int y] := by rw [e]
theorem erase_map {α β : Type} (f : α → β) : ∀ (l : List α) (k : Nat), (l.map f).eraseIdx k = (l.eraseIdx k).map f
  | [], _ => by simp
  | x :: l, 0 => by simp
  | x :: l, k + 1 => by
    rw [List.map_cons, List.eraseIdx_cons_succ, List.eraseIdx_cons_succ, List.map_cons, erase_map f l k]
theorem erase_perm {α : Type} : ∀ (l : List α) (k : Nat) (h : k < l.length), (l[k] :: l.eraseIdx k).Perm l
  | x :: l, 0, h => List.Perm.refl _
  | x :: l, k + 1, h => by
    rw [List.eraseIdx_cons_succ, List.getElem_cons_succ]
    exact (List.Perm.swap _ _ _).trans ((erase_perm l k (by simpa using h)).cons x)
/-- rules whose reading names the written part, for elements of comprehensions -/
def rLen (K : PySem.W.Frag) : List V → Hp → VK → Prop := fun xs H Q => ∃ p ys, xs = [.ref p] ∧ (SqL K H p ys ∨ SqT K H p ys) ∧ Q (.int ys.length) H
theorem call_len {X : Cx} : CallR X (.builtin "len") (rLen X.K) := call_len_seq
end FL
namespace FL
open PySem PySem.Spec PyProof.Rows L2
/-! ## gaps -/
def gB (b : Bool) (x y : Int) : Bool := if b = true then decide (y ≠ x + 1) else decide (y ≠ x + 1 ∧ x ≠ y + 1)
def b1 (b : Bool) : Nat := if b = true then 1 else 0
/-- gaps of a pile that stands on a plate e -/
def gapc (g : Int → Int → Bool) : List Int → Int → Nat
  | [], _ => 0
  | x :: xs, e => b1 (g x (xs.headD e)) + gapc g xs e
/-- those between its own cakes -/
def inner (g : Int → Int → Bool) : List Int → Nat
  | [] => 0
  | [_] => 0
  | x :: y :: xs => b1 (g x y) + inner g (y :: xs)
def gapn (b : Bool) (ns : List Int) : Nat := gapc (gB b) ns (ns.length + 1)
theorem b1_le (b : Bool) : b1 b ≤ 1 := by cases b <;> decide
theorem b1_zero {b : Bool} (h : b1 b = 0) : b = false := by
  cases b with
  | true => exact absurd h (by decide)
  | false => rfl
theorem gBt_false {x y : Int} (h : gB true x y = false) : y = x + 1 := by
  unfold gB at h
  rw [if_pos rfl, decide_eq_false_iff_not] at h
  omega
theorem gBf_false {x y : Int} (h : gB false x y = false) : y = x + 1 ∨ x = y + 1 := by
  unfold gB at h
  rw [if_neg Bool.false_ne_true, decide_eq_false_iff_not] at h
  omega
theorem range_filter_succ (n : Nat) (p : Nat → Bool) : ((List.range (n + 1)).filter p).length = b1 (p 0) + ((List.range n).filter (fun k => p (k + 1))).length := by
  rw [List.range_succ_eq_map, List.filter_cons, List.filter_map]
  cases h : p 0 with
  | true =>
    rw [if_pos rfl, List.length_cons, List.length_map]
    show _ = 1 + _
    rw [Nat.add_comm]
    rfl
  | false =>
    rw [if_neg Bool.false_ne_true, List.length_map]
    show _ = 0 + _
    rw [Nat.zero_add]
    rfl
theorem gapc_count (g : Int → Int → Bool) (e : Int) : ∀ ns : List Int, ((List.range ns.length).filter (fun k => g (ns.getD k 0) ((ns.drop 1 ++ [e]).getD k 0))).length = gapc g ns e
  | [] => rfl
  | x :: xs => by
    rw [List.length_cons, range_filter_succ]
    have h1 : (((x :: xs).drop 1 ++ [e]).getD 0 0) = xs.headD e := by cases xs <;> rfl
    have h2 : ∀ k, k < xs.length → (((x :: xs).drop 1 ++ [e]).getD (k + 1) 0) = ((xs.drop 1 ++ [e]).getD k 0) := fun k hk => by
      cases xs with
      | nil => simp at hk
      | cons y ys => rfl
    rw [h1]
    show b1 (g x (xs.headD e)) + _ = b1 (g x (xs.headD e)) + gapc g xs e
    rw [← gapc_count g e xs]
    congr 2
    refine List.filter_congr fun k hk => ?_
    rw [h2 k (List.mem_range.mp hk)]
    rfl
theorem gapn_count (b : Bool) (ns : List Int) : ((List.range ns.length).filter (fun k => gB b (ns.getD k 0) ((ns.drop 1 ++ [((ns.length : Nat) : Int) + 1]).getD k 0))).length = gapn b ns := gapc_count _ _ ns
theorem gapc_append (g : Int → Int → Bool) (e : Int) : ∀ l m : List Int, gapc g (l ++ m) e = gapc g l (m.headD e) + gapc g m e
  | [], m => by simp [gapc]
  | x :: l, m => by
    show b1 (g x ((l ++ m).headD e)) + gapc g (l ++ m) e = b1 (g x (l.headD (m.headD e))) + gapc g l (m.headD e) + gapc g m e
    rw [gapc_append g e l m]
    have : (l ++ m).headD e = l.headD (m.headD e) := by cases l <;> rfl
    rw [this]
    omega
theorem gapc_inner (g : Int → Int → Bool) (e : Int) : ∀ l : List Int, inner g l ≤ gapc g l e ∧ gapc g l e ≤ inner g l + 1
  | [] => ⟨Nat.le_refl _, Nat.zero_le _⟩
  | [x] => by
    show 0 ≤ b1 (g x e) + 0 ∧ b1 (g x e) + 0 ≤ 0 + 1
    have := b1_le (g x e)
    omega
  | x :: y :: xs => by
    have ih := gapc_inner g e (y :: xs)
    show b1 (g x y) + inner g (y :: xs) ≤ b1 (g x y) + gapc g (y :: xs) e ∧ b1 (g x y) + gapc g (y :: xs) e ≤ b1 (g x y) + inner g (y :: xs) + 1
    omega
theorem inner_snoc (g : Int → Int → Bool) (z : Int) : ∀ l : List Int, ∀ y : Int, inner g ((l ++ [y]) ++ [z]) = inner g (l ++ [y]) + b1 (g y z)
  | [], y => by
    show b1 (g y z) + 0 = 0 + b1 (g y z)
    omega
  | [x], y => by
    show b1 (g x y) + (b1 (g y z) + 0) = b1 (g x y) + 0 + b1 (g y z)
    omega
  | x :: w :: l, y => by
    have ih := inner_snoc g z (w :: l) y
    show b1 (g x w) + inner g (((w :: l) ++ [y]) ++ [z]) = b1 (g x w) + inner g ((w :: l) ++ [y]) + b1 (g y z)
    rw [ih]
    omega
theorem inner_rev (g : Int → Int → Bool) (f : Int → Int) (hg : ∀ x y, g (f y) (f x) = g x y) : ∀ l : List Int, inner g (l.reverse.map f) = inner g l
  | [] => rfl
  | [x] => rfl
  | x :: y :: xs => by
    have ih := inner_rev g f hg (y :: xs)
    have e : (x :: y :: xs).reverse.map f = ((xs.reverse.map f) ++ [f y]) ++ [f x] := by simp
    have e2 : (y :: xs).reverse.map f = (xs.reverse.map f) ++ [f y] := by simp
    rw [e, inner_snoc, hg, ← e2, ih]
    show _ = b1 (g x y) + inner g (y :: xs)
    omega
theorem gB_neg (x y : Int) : gB true (-y) (-x) = gB true x y := by
  unfold gB
  rw [if_pos rfl, if_pos rfl]
  congr 1
  exact propext ⟨fun h e => h (by omega), fun h e => h (by omega)⟩
theorem gB_sym (x y : Int) : gB false y x = gB false x y := by
  unfold gB
  rw [if_neg Bool.false_ne_true, if_neg Bool.false_ne_true]
  congr 1
  exact propext ⟨fun h => ⟨h.2, h.1⟩, fun h => ⟨h.2, h.1⟩⟩
theorem tflip_eq (b : Bool) (ns : List Int) (k : Nat) : tflip b ns k = (ns.take k).reverse.map (fun x => if b = true then -x else x) ++ ns.drop k := by
  unfold tflip
  cases b with
  | true => rw [if_pos rfl, bflip] <;> rfl
  | false =>
    rw [if_neg Bool.false_ne_true, pflip]
    show _ = List.map (fun x => x) _ ++ _
    rw [List.map_id']
/-- a turn takes away or makes one gap at most -/
theorem gapn_flip (b : Bool) (ns : List Int) (k : Nat) : gapn b (tflip b ns k) ≤ gapn b ns + 1 ∧ gapn b ns ≤ gapn b (tflip b ns k) + 1 := by
  unfold gapn
  rw [tflip_length, tflip_eq, gapc_append]
  have e : gapc (gB b) ns ((ns.length : Nat) + 1) = gapc (gB b) (ns.take k) ((ns.drop k).headD ((ns.length : Nat) + 1)) + gapc (gB b) (ns.drop k) ((ns.length : Nat) + 1) := by
    rw [← gapc_append, List.take_append_drop]
  have hi : inner (gB b) ((ns.take k).reverse.map (fun x => if b = true then -x else x)) = inner (gB b) (ns.take k) := by
    refine inner_rev _ _ (fun x y => ?_) _
    cases b with
    | true => exact gB_neg x y
    | false => exact gB_sym x y
  have h1 := gapc_inner (gB b) ((ns.drop k).headD ((ns.length : Nat) + 1)) (ns.take k)
  have h2 := gapc_inner (gB b) ((ns.drop k).headD ((ns.length : Nat) + 1)) ((ns.take k).reverse.map (fun x => if b = true then -x else x))
  rw [hi] at h2
  rw [e]
  omega
/-- no gaps: in order -/
theorem burnt_nogap : ∀ (ns : List Int) (e : Int), gapc (gB true) ns e = 0 → ∀ k, k < ns.length → ns.getD k 0 = e - (ns.length : Int) + (k : Int)
  | [], _, _, _, h => absurd h (Nat.not_lt_zero _)
  | x :: xs, e, h, k, hk => by
    have h' : b1 (gB true x (xs.headD e)) + gapc (gB true) xs e = 0 := h
    have h1 : b1 (gB true x (xs.headD e)) = 0 := by omega
    have h2 : gapc (gB true) xs e = 0 := by omega
    have ih := burnt_nogap xs e h2
    have hx : xs.headD e = x + 1 := gBt_false (b1_zero h1)
    cases k with
    | zero =>
      show x = _
      cases xs with
      | nil =>
        have : e = x + 1 := hx
        simp
        omega
      | cons y ys =>
        have h3 := ih 0 (by simp)
        have h4 : y = x + 1 := hx
        have h5 : y = e - (((y :: ys).length : Nat) : Int) + ((0 : Nat) : Int) := h3
        simp only [List.length_cons] at h5 ⊢
        omega
    | succ j =>
      have h3 := ih j (by simpa using hk)
      show xs.getD j 0 = _
      rw [h3]
      simp only [List.length_cons]
      omega
theorem upto_getD {n k : Nat} (h : k < n) : (upto n).getD k 0 = 1 + (k : Int) := by
  rw [List.getD_eq_getElem?_getD, upto_get h]
  rfl
theorem ext_getD {l m : List Int} (h : l.length = m.length) (e : ∀ k, k < l.length → l.getD k 0 = m.getD k 0) : l = m := by
  apply List.ext_getElem h
  intro k h1 h2
  have := e k h1
  rw [List.getD_eq_getElem?_getD, List.getD_eq_getElem?_getD, List.getElem?_eq_getElem h1, List.getElem?_eq_getElem h2] at this
  exact this
theorem gapc_upto (b : Bool) (n : Nat) : gapn b (upto n) = 0 := by
  unfold gapn
  rw [← gapc_count, upto_length]
  rw [List.length_eq_zero_iff, List.filter_eq_nil_iff]
  intro k hk
  have hk := List.mem_range.mp hk
  have e1 := upto_getD hk
  have e2 : ((upto n).drop 1 ++ [((n : Nat) : Int) + 1]).getD k 0 = 2 + (k : Int) := by
    rw [List.getD_eq_getElem?_getD]
    by_cases h : k + 1 < n
    · rw [List.getElem?_append_left (by rw [List.length_drop, upto_length]; omega), List.getElem?_drop, Nat.add_comm, upto_get h]
      show 1 + ((k + 1 : Nat) : Int) = _
      omega
    · rw [List.getElem?_append_right (by rw [List.length_drop, upto_length]; omega), List.length_drop, upto_length]
      have : k - (n - 1) = 0 := by omega
      rw [this]
      show ((n : Nat) : Int) + 1 = _
      omega
  rw [e1, e2]
  unfold gB
  split <;> simp <;> omega
theorem burnt_order {ns : List Int} (h : gapn true ns = 0) : ns = upto ns.length := by
  refine ext_getD (upto_length _).symm fun k hk => ?_
  rw [upto_getD hk, burnt_nogap ns _ h k hk]
  omega
/-- a plain pile without gaps: the cakes behind place k are those in order -/
theorem plain_nogap : ∀ (ns : List Int) (e : Int), ns.Nodup → (∀ x ∈ ns, x < e) → gapc (gB false) ns e = 0 → ∀ k, k < ns.length → ns.getD k 0 = e - (ns.length : Int) + (k : Int)
  | [], _, _, _, _, _, h => absurd h (Nat.not_lt_zero _)
  | x :: xs, e, nd, lt, h, k, hk => by
    have h' : b1 (gB false x (xs.headD e)) + gapc (gB false) xs e = 0 := h
    have h1 : b1 (gB false x (xs.headD e)) = 0 := by omega
    have h2 : gapc (gB false) xs e = 0 := by omega
    have nd2 := List.nodup_cons.mp nd
    have ih := plain_nogap xs e nd2.2 (fun z hz => lt z (List.mem_cons_of_mem _ hz)) h2
    have hx : xs.headD e = x + 1 ∨ x = xs.headD e + 1 := gBf_false (b1_zero h1)
    have hlt := lt x List.mem_cons_self
    have x0 : x = e - (((x :: xs).length : Nat) : Int) := by
      cases xs with
      | nil =>
        have hx' : e = x + 1 ∨ x = e + 1 := hx
        simp only [List.length_cons, List.length_nil]
        omega
      | cons y ys =>
        have hx' : y = x + 1 ∨ x = y + 1 := hx
        have h5 : y = e - (((y :: ys).length : Nat) : Int) + ((0 : Nat) : Int) := ih 0 (by simp)
        simp only [List.length_cons] at h5 ⊢
        rcases hx' with c | c
        · omega
        · exfalso
          cases ys with
          | nil =>
            simp only [List.length_nil] at h5
            omega
          | cons w ws =>
            have h6 : w = e - (((y :: w :: ws).length : Nat) : Int) + ((1 : Nat) : Int) := ih 1 (by simp)
            simp only [List.length_cons] at h5 h6
            exact nd2.1 (by rw [show x = w by omega]; simp)
    cases k with
    | zero =>
      show x = _
      omega
    | succ j =>
      have h3 := ih j (by simpa using hk)
      show xs.getD j 0 = _
      rw [h3]
      simp only [List.length_cons]
      omega
theorem plain_order {ns : List Int} (hp : IsPile ns) (h : gapn false ns = 0) : ns = upto ns.length := by
  refine ext_getD (upto_length _).symm fun k hk => ?_
  rw [upto_getD hk, plain_nogap ns _ hp.nodup (fun x hx => by have := (hp.mem.mp hx).2; omega) h k hk]
  omega
theorem v_int_eq (x y : Int) : decide (V.int x = V.int y) = decide (x = y) := by
  by_cases h : x = y
  · rw [h, decide_eq_true rfl, decide_eq_true rfl]
  · rw [decide_eq_false h, decide_eq_false (fun e => h (V.int.inj e))]
theorem gap_test_plain (x y : Int) : (!decide (V.int (if x - y < 0 then -(x - y) else x - y) = V.int 1)) = gB false x y := by
  rw [v_int_eq]
  unfold gB
  rw [if_neg Bool.false_ne_true, ← decide_not]
  congr 1
  refine propext ⟨fun h => ?_, fun h => ?_⟩
  · split at h <;> omega
  · split <;> omega
theorem gap_test_burnt (x y : Int) : (!decide (V.int y = V.int (x + 1))) = gB true x y := by
  rw [v_int_eq]
  unfold gB
  rw [if_pos rfl, ← decide_not]
theorem tne_t {x y : Int} (h : (!decide (V.int x = V.int y)) = true) : x ≠ y := by
  rw [v_int_eq, ← decide_not] at h
  exact of_decide_eq_true h
theorem tne_f {x y : Int} (h : (!decide (V.int x = V.int y)) = false) : x = y := by
  rw [v_int_eq, ← decide_not] at h
  have := of_decide_eq_false h
  omega
theorem teq_t {x y : Int} (h : decide (V.int x = V.int y) = true) : x = y := by
  rw [v_int_eq] at h
  exact of_decide_eq_true h
theorem teq_f {x y : Int} (h : decide (V.int x = V.int y) = false) : x ≠ y := by
  rw [v_int_eq] at h
  exact of_decide_eq_false h
theorem below_eq (ns : List Int) (e : Int) (k : Nat) (h : k < ns.length) : (ns.drop 1 ++ [e]).getD k 0 = (ns ++ [e]).getD (k + 1) 0 := by
  cases ns with
  | nil => exact absurd h (Nat.not_lt_zero _)
  | cons x xs => rfl
def gapTo (b : Bool) (ns : List Int) (i : Nat) : Nat := ((List.range i).filter (fun k => gB b (ns.getD k 0) ((ns ++ [((ns.length : Nat) : Int) + 1]).getD (k + 1) 0))).length
theorem gapTo_all (b : Bool) (ns : List Int) : gapTo b ns ns.length = gapn b ns := by
  rw [← gapn_count]
  unfold gapTo
  congr 1
  refine List.filter_congr fun k hk => ?_
  rw [below_eq ns _ k (List.mem_range.mp hk)]
theorem gapTo_succ (b : Bool) (ns : List Int) (i : Nat) : gapTo b ns (i + 1) = gapTo b ns i + b1 (gB b (ns.getD i 0) ((ns ++ [((ns.length : Nat) : Int) + 1]).getD (i + 1) 0)) := by
  unfold gapTo
  rw [List.range_succ, List.filter_append, List.length_append]
  congr 1
  rw [List.filter_cons]
  cases gB b (ns.getD i 0) ((ns ++ [((ns.length : Nat) : Int) + 1]).getD (i + 1) 0) with
  | true => rfl
  | false => rfl
theorem gB_t {b : Bool} {x y : Int} (h1 : y ≠ x + 1) (h2 : b = false → x ≠ y + 1) : gB b x y = true := by
  unfold gB
  cases b with
  | true =>
    rw [if_pos rfl]
    exact decide_eq_true h1
  | false =>
    rw [if_neg Bool.false_ne_true]
    exact decide_eq_true ⟨h1, h2 rfl⟩
theorem gB_f1 {b : Bool} {x y : Int} (h1 : y = x + 1) : gB b x y = false := by
  unfold gB
  cases b with
  | true =>
    rw [if_pos rfl]
    exact decide_eq_false fun h => h h1
  | false =>
    rw [if_neg Bool.false_ne_true]
    exact decide_eq_false fun h => h.1 h1
theorem gB_f2 {x y : Int} (h1 : x = y + 1) : gB false x y = false := by
  unfold gB
  rw [if_neg Bool.false_ne_true]
  exact decide_eq_false fun h => h.2 h1
end FL
namespace FL
open PySem PySem.Spec PyProof.Rows L2
/-! ## rows of turns, and the rule's plans -/
def gsg (b : Bool) (x : Int) : Int := if b = true then -x else x
theorem gsg_gsg (b : Bool) (x : Int) : gsg b (gsg b x) = x := by
  unfold gsg
  cases b with
  | true => rw [if_pos rfl, if_pos rfl, Int.neg_neg]
  | false => rw [if_neg Bool.false_ne_true, if_neg Bool.false_ne_true]
theorem tflip_g (b : Bool) (ns : List Int) (k : Nat) : tflip b ns k = (ns.take k).reverse.map (gsg b) ++ ns.drop k := tflip_eq b ns k
theorem tflip_false (ns : List Int) (k : Nat) : tflip false ns k = pflip ns k := rfl
theorem tflip_true (ns : List Int) (k : Nat) : tflip true ns k = bflip ns k := rfl
theorem tflip_lt (b : Bool) {ns : List Int} {k j : Nat} (hk : k ≤ ns.length) (hj : j < k) : (tflip b ns k).getD j 0 = gsg b (ns.getD (k - 1 - j) 0) := by
  rw [tflip_g, List.getD_eq_getElem?_getD, List.getElem?_append_left (by rw [List.length_map, List.length_reverse, List.length_take]; omega), List.getElem?_map, List.getElem?_reverse (by rw [List.length_take]; omega), List.length_take, Nat.min_eq_left hk,
    List.getElem?_take, if_pos (show k - 1 - j < k by omega), List.getElem?_eq_getElem (show k - 1 - j < ns.length by omega), List.getD_eq_getElem?_getD, List.getElem?_eq_getElem (show k - 1 - j < ns.length by omega)]
  rfl
theorem tflip_ge (b : Bool) {ns : List Int} {k j : Nat} (hk : k ≤ ns.length) (hj : k ≤ j) : (tflip b ns k).getD j 0 = ns.getD j 0 := by
  have e : (((ns.take k).reverse.map (gsg b))).length = k := by rw [List.length_map, List.length_reverse, List.length_take]; omega
  rw [tflip_g, List.getD_eq_getElem?_getD, List.getElem?_append_right (by rw [e]; exact hj), e, List.getElem?_drop, List.getD_eq_getElem?_getD]
  congr 2
  omega
theorem tflip_tflip (b : Bool) {ns : List Int} {k : Nat} (hk : k ≤ ns.length) : tflip b (tflip b ns k) k = ns := by
  refine ext_getD (by rw [tflip_length, tflip_length]) fun j hj => ?_
  rw [tflip_length, tflip_length] at hj
  by_cases h : j < k
  · rw [tflip_lt b (by rw [tflip_length]; exact hk) h, tflip_lt b hk (show k - 1 - j < k by omega), gsg_gsg]
    congr 1
    omega
  · rw [tflip_ge b (by rw [tflip_length]; exact hk) (by omega), tflip_ge b hk (by omega)]
def IsP (b : Bool) (p : List Int) : Prop := if b = true then IsBurnt p else IsPile p
theorem IsP.len {b : Bool} {p : List Int} (h : IsP b p) : 1 ≤ p.length ∧ p.length ≤ 12 := by
  cases b with
  | true => exact burnt_len h
  | false => exact ⟨h.1, h.2.1⟩
theorem IsP.flip {b : Bool} {p : List Int} (h : IsP b p) (k : Nat) : IsP b (tflip b p k) := by
  cases b with
  | true => exact bflip_burnt h
  | false => exact pflip_pile h
theorem IsP.order {b : Bool} {p : List Int} (h : IsP b p) (g : gapn b p = 0) : p = upto p.length := by
  cases b with
  | true => exact burnt_order g
  | false => exact plain_order h g
def tbehind (b : Bool) (ns ts : List Int) : List Int := ts.foldl (fun p t => tflip b p t.toNat) ns
theorem tbehind_nil (b : Bool) (ns : List Int) : tbehind b ns [] = ns := rfl
theorem tbehind_cons (b : Bool) (ns ts : List Int) (t : Int) : tbehind b ns (t :: ts) = tbehind b (tflip b ns t.toNat) ts := rfl
theorem tbehind_append (b : Bool) (ns ts us : List Int) : tbehind b ns (ts ++ us) = tbehind b (tbehind b ns ts) us := List.foldl_append
theorem tbehind_snoc (b : Bool) (ns ts : List Int) (t : Int) : tbehind b ns (ts ++ [t]) = tflip b (tbehind b ns ts) t.toNat := tbehind_append b ns ts [t]
theorem tbehind_length (b : Bool) : ∀ (ts ns : List Int), (tbehind b ns ts).length = ns.length
  | [], _ => rfl
  | t :: ts, ns => by rw [tbehind_cons, tbehind_length b ts, tflip_length]
theorem tbehind_isP {b : Bool} : ∀ (ts : List Int) {ns : List Int}, IsP b ns → IsP b (tbehind b ns ts)
  | [], _, h => h
  | t :: ts, ns, h => tbehind_isP ts (h.flip t.toNat)
theorem gapn_behind (b : Bool) : ∀ (ts ns : List Int), gapn b ns ≤ gapn b (tbehind b ns ts) + ts.length
  | [], _ => Nat.le_refl _
  | t :: ts, ns => by
    have h1 := gapn_behind b ts (tflip b ns t.toNat)
    have h2 := (gapn_flip b ns t.toNat).2
    rw [tbehind_cons, List.length_cons]
    omega
/-- cakes from place i on in order -/
def Placed (q : List Int) (c : Nat) : Prop := ∀ j, c ≤ j → j < q.length → q.getD j 0 = (j : Int) + 1
theorem placed_all {q : List Int} (h : Placed q 0) : q = upto q.length := by
  refine ext_getD (upto_length _).symm fun k hk => ?_
  rw [upto_getD hk, h k (Nat.zero_le _) hk]
  omega
theorem idx_get {q : List Int} {x : Int} (h : x ∈ q) : q.idxOf x < q.length ∧ q.getD (q.idxOf x) 0 = x := by
  have h1 := List.idxOf_lt_length_of_mem h
  refine ⟨h1, ?_⟩
  rw [List.getD_eq_getElem?_getD, List.getElem?_eq_getElem h1]
  exact List.getElem_idxOf h1
theorem getD_inj {q : List Int} (nd : q.Nodup) {i j : Nat} (hi : i < q.length) (hj : j < q.length) (e : q.getD i 0 = q.getD j 0) : i = j := by
  rw [List.getD_eq_getElem?_getD, List.getD_eq_getElem?_getD, List.getElem?_eq_getElem hi, List.getElem?_eq_getElem hj] at e
  exact (List.getElem_inj nd).mp e
theorem idx_at {q : List Int} (nd : q.Nodup) {i : Nat} (hi : i < q.length) : q.idxOf (q.getD i 0) = i := by
  have h := idx_get (getD_in hi)
  exact getD_inj nd h.1 hi h.2
theorem idx_low {q : List Int} (h : IsPile q) {c : Nat} (h1 : 1 ≤ c) (hc : c ≤ q.length) (pl : Placed q c) : q.idxOf (c : Int) < c := by
  have hm : (c : Int) ∈ q := h.mem.mpr ⟨by omega, by omega⟩
  obtain ⟨a, e⟩ := idx_get hm
  refine Nat.lt_of_not_le fun hle => ?_
  have := pl _ hle a
  omega
/-- what x.index(y) asks of a list of ints -/
theorem index_facts {q : List Int} {x : Int} (h : x ∈ q) : (q.map V.int).all flatV = true ∧ (q.map V.int)[q.idxOf x]? = some (V.int x) ∧ eqV (V.int x) (V.int x) = true ∧
    ∀ (m : Nat) (z : V), m < q.idxOf x → (q.map V.int)[m]? = some z → eqV z (V.int x) = false := by
  obtain ⟨h1, h2⟩ := idx_get h
  have h3 : q[q.idxOf x]? = some x := by rw [getD_at h1, h2]
  refine ⟨?_, setInt h3, beq_self_eq_true x, fun m z hm hz => ?_⟩
  · rw [List.all_eq_true]
    intro v hv
    obtain ⟨y, _, rfl⟩ := List.mem_map.mp hv
    rfl
  · obtain ⟨y, hy, rfl, hl⟩ := getInt hz
    show (y == x) = false
    have hn : y ≠ x := fun e => by
      have nf := List.not_of_lt_findIdx (p := (· == x)) (xs := q) (i := m) hm
      have e2 : q[m] = y := by
        rw [List.getElem?_eq_getElem hl] at hy
        exact Option.some.inj hy
      rw [e2, e] at nf
      simp at nf
    simp [hn]
def pstep (c : Nat) (s : List Int × List Int) : List Int × List Int :=
  if s.1.idxOf (c : Int) + 1 = c then s else if s.1.idxOf (c : Int) + 1 = 1 then (pflip s.1 c, s.2 ++ [(c : Int)]) else (pflip (pflip s.1 (s.1.idxOf (c : Int) + 1)) c, s.2 ++ [((s.1.idxOf (c : Int) + 1 : Nat) : Int)] ++ [(c : Int)])
def pst (p : List Int) : Nat → List Int × List Int
  | 0 => (p, [])
  | i + 1 => pstep (p.length - i) (pst p i)
structure PInv (b : Bool) (p : List Int) (s : List Int × List Int) (c : Nat) : Prop where
  pile : IsP b s.1
  len : s.1.length = p.length
  pl : Placed s.1 c
  beh : s.1 = tbehind b p s.2
  ok : ∀ t ∈ s.2, 1 ≤ t ∧ t ≤ p.length
theorem PInv.put {b : Bool} {p : List Int} {s : List Int × List Int} {c k : Nat} (h : PInv b p s c) (h1 : 1 ≤ k) (hk : k ≤ c) (hc : c ≤ p.length) : PInv b p (tflip b s.1 k, s.2 ++ [(k : Int)]) c where
  pile := h.pile.flip k
  len := by rw [tflip_length]; exact h.len
  pl := fun j hj hl => by
    rw [tflip_length] at hl
    show (tflip b s.1 k).getD j 0 = _
    rw [tflip_ge b (by rw [h.len]; omega) (by omega)]
    exact h.pl j hj hl
  beh := by
    show tflip b s.1 k = tbehind b p (s.2 ++ [(k : Int)])
    rw [tbehind_snoc, ← h.beh, Int.toNat_natCast]
  ok := fun t ht => by
    rcases List.mem_append.mp ht with m | m
    · exact h.ok t m
    · rw [List.mem_singleton.mp m]
      omega
theorem PInv.down {b : Bool} {p : List Int} {s : List Int × List Int} {c : Nat} (h : PInv b p s (c + 1)) (e : s.1.getD c 0 = (c : Int) + 1) : PInv b p s c where
  pile := h.pile
  len := h.len
  pl := fun j hj hl => by
    by_cases hc : j = c
    · rw [hc]
      exact e
    · exact h.pl j (by omega) hl
  beh := h.beh
  ok := h.ok
theorem pstep_inv {p : List Int} {s : List Int × List Int} {c : Nat} (hc : c + 1 ≤ p.length) (h : PInv false p s (c + 1)) : PInv false p (pstep (c + 1) s) c ∧ (pstep (c + 1) s).2.length ≤ s.2.length + (if c = 0 then 0 else if c = 1 then 1 else 2) := by
  have hp : IsPile s.1 := h.pile
  have hm : ((c + 1 : Nat) : Int) ∈ s.1 := hp.mem.mpr ⟨by omega, by rw [h.len]; omega⟩
  have hi := idx_low hp (c := c + 1) (by omega) (by rw [h.len]; exact hc) h.pl
  obtain ⟨hl, hg⟩ := idx_get hm
  have hlen := h.len
  unfold pstep
  by_cases e1 : s.1.idxOf ((c + 1 : Nat) : Int) + 1 = c + 1
  · rw [if_pos e1]
    refine ⟨h.down ?_, Nat.le_add_right _ _⟩
    have e2 : s.1.idxOf ((c + 1 : Nat) : Int) = c := by omega
    rw [e2] at hg
    rw [hg]
    omega
  · rw [if_neg e1]
    have hc0 : ¬ c = 0 := by omega
    by_cases e2 : s.1.idxOf ((c + 1 : Nat) : Int) + 1 = 1
    · rw [if_pos e2]
      have e3 : s.1.idxOf ((c + 1 : Nat) : Int) = 0 := by omega
      rw [e3] at hg
      refine ⟨(h.put (k := c + 1) (by omega) (Nat.le_refl _) hc).down ?_, ?_⟩
      · show (tflip false s.1 (c + 1)).getD c 0 = _
        rw [tflip_lt false (by omega) (Nat.lt_succ_self _), show c + 1 - 1 - c = 0 by omega, hg]
        show ((c + 1 : Nat) : Int) = _
        omega
      · rw [List.length_append, if_neg hc0]
        have : [((c + 1 : Nat) : Int)].length = 1 := rfl
        rw [this]
        split <;> omega
    · rw [if_neg e2]
      have hk : s.1.idxOf ((c + 1 : Nat) : Int) + 1 ≤ s.1.length := by omega
      refine ⟨((h.put (k := s.1.idxOf ((c + 1 : Nat) : Int) + 1) (by omega) (by omega) hc).put (k := c + 1) (by omega) (Nat.le_refl _) hc).down ?_, ?_⟩
      · show (tflip false (tflip false s.1 (s.1.idxOf ((c + 1 : Nat) : Int) + 1)) (c + 1)).getD c 0 = _
        rw [tflip_lt false (by rw [tflip_length]; omega) (Nat.lt_succ_self _), show c + 1 - 1 - c = 0 by omega, tflip_lt false hk (by omega), show s.1.idxOf ((c + 1 : Nat) : Int) + 1 - 1 - 0 = s.1.idxOf ((c + 1 : Nat) : Int) by omega, hg]
        show ((c + 1 : Nat) : Int) = _
        omega
      · rw [List.length_append, List.length_append, if_neg hc0, if_neg (show ¬ c = 1 by omega)]
        show s.2.length + 1 + 1 ≤ _
        omega
theorem pst_inv {p : List Int} (hp : IsPile p) : ∀ i, i ≤ p.length → PInv false p (pst p i) (p.length - i) ∧ (pst p i).2.length ≤ 2 * i ∧ (p.length - i < 2 → (pst p i).2.length ≤ 2 * p.length - 3)
  | 0, _ => ⟨⟨hp, rfl, fun j h1 h2 => absurd h2 (by show ¬ j < p.length; omega), rfl, fun t ht => absurd ht (by show ¬ t ∈ []; simp)⟩, Nat.le_refl _, fun _ => Nat.zero_le _⟩
  | i + 1, hi => by
    obtain ⟨ih, l1, l2⟩ := pst_inv hp i (by omega)
    have e : p.length - i = (p.length - (i + 1)) + 1 := by omega
    have ih' : PInv false p (pst p i) ((p.length - (i + 1)) + 1) := by rw [← e]; exact ih
    obtain ⟨n1, n2⟩ := pstep_inv (c := p.length - (i + 1)) (by omega) ih'
    have e3 : pst p (i + 1) = pstep ((p.length - (i + 1)) + 1) (pst p i) := by
      show pstep (p.length - i) (pst p i) = _
      rw [e]
    rw [e3]
    refine ⟨n1, ?_, fun hs => ?_⟩
    · split at n2 <;> (try split at n2) <;> omega
    · split at n2
      · by_cases h : p.length - i < 2
        · have := l2 h
          omega
        · omega
      · split at n2
        · omega
        · omega
def planOf (p : List Int) : List Int := (pst p p.length).2
structure Sorts (b : Bool) (p ts : List Int) : Prop where
  ok : ∀ t ∈ ts, 1 ≤ t ∧ t ≤ p.length
  e : tbehind b p ts = upto p.length
theorem plan_sorts {p : List Int} (hp : IsPile p) : Sorts false p (planOf p) ∧ (planOf p).length ≤ 2 * p.length - 3 := by
  obtain ⟨a, _, c⟩ := pst_inv hp p.length (Nat.le_refl _)
  rw [Nat.sub_self] at a c
  refine ⟨⟨a.ok, ?_⟩, c (by decide)⟩
  unfold planOf
  rw [← a.beh, placed_all a.pl, a.len]
theorem Sorts.gaps {b : Bool} {p ts : List Int} (h : Sorts b p ts) : gapn b p ≤ ts.length := by
  have := gapn_behind b ts p
  rw [h.e, gapc_upto] at this
  omega
/-! ### burnt -/
def bplace (q : List Int) (c : Nat) : Nat := (q.map iabs).idxOf (c : Int) + 1
def bst1 (c : Nat) (s : List Int × List Int) : List Int × List Int := if 1 < bplace s.1 c then (bflip s.1 (bplace s.1 c), s.2 ++ [((bplace s.1 c : Nat) : Int)]) else s
def bst2 (s : List Int × List Int) : List Int × List Int := if 0 < s.1.getD 0 0 then (bflip s.1 1, s.2 ++ [1]) else s
def bstep (c : Nat) (s : List Int × List Int) : List Int × List Int :=
  if s.1.getD (c - 1) 0 = (c : Int) then s else (bflip (bst2 (bst1 c s)).1 c, (bst2 (bst1 c s)).2 ++ [(c : Int)])
def bst (p : List Int) : Nat → List Int × List Int
  | 0 => (p, [])
  | i + 1 => bstep (p.length - i) (bst p i)
theorem abs_getD {q : List Int} {j : Nat} (h : j < q.length) : (q.map iabs).getD j 0 = iabs (q.getD j 0) := by
  rw [List.getD_eq_getElem?_getD, List.getElem?_map, List.getD_eq_getElem?_getD, List.getElem?_eq_getElem h]
  rfl
theorem placed_abs {q : List Int} {c : Nat} (h : Placed q c) : Placed (q.map iabs) c := fun j h1 h2 => by
  rw [List.length_map] at h2
  rw [abs_getD h2, h j h1 h2, iabs_pos (by omega)]
theorem bst1_inv {p : List Int} {s : List Int × List Int} {c : Nat} (hc : c + 1 ≤ p.length) (h : PInv true p s (c + 1)) :
    bplace s.1 (c + 1) ≤ c + 1 ∧ PInv true p (bst1 (c + 1) s) (c + 1) ∧ iabs ((bst1 (c + 1) s).1.getD 0 0) = (c : Int) + 1 ∧ (bst1 (c + 1) s).2.length ≤ s.2.length + (if c = 0 then 0 else 1) := by
  have hp : IsPile (s.1.map iabs) := h.pile
  have hlen := h.len
  have hi := idx_low hp (c := c + 1) (by omega) (by rw [List.length_map, h.len]; exact hc) (placed_abs h.pl)
  have hm : ((c + 1 : Nat) : Int) ∈ s.1.map iabs := hp.mem.mpr ⟨by omega, by rw [List.length_map, h.len]; omega⟩
  obtain ⟨hl, hg⟩ := idx_get hm
  rw [List.length_map] at hl
  rw [abs_getD hl] at hg
  unfold bst1
  have eb : bplace s.1 (c + 1) = (s.1.map iabs).idxOf ((c + 1 : Nat) : Int) + 1 := rfl
  by_cases e1 : 1 < bplace s.1 (c + 1)
  · rw [if_pos e1]
    refine ⟨by omega, h.put (by omega) (by omega) hc, ?_, ?_⟩
    · show iabs ((tflip true s.1 (bplace s.1 (c + 1))).getD 0 0) = _
      rw [tflip_lt true (by omega) (by omega), eb, show (s.1.map iabs).idxOf ((c + 1 : Nat) : Int) + 1 - 1 - 0 = (s.1.map iabs).idxOf ((c + 1 : Nat) : Int) by omega]
      show iabs (-(s.1.getD _ 0)) = _
      rw [iabs_neg, hg]
      omega
    · rw [List.length_append, if_neg (show ¬ c = 0 by omega)]
      exact Nat.le_refl _
  · rw [if_neg e1]
    refine ⟨by omega, h, ?_, Nat.le_add_right _ _⟩
    have e2 : (s.1.map iabs).idxOf ((c + 1 : Nat) : Int) = 0 := by omega
    rw [e2] at hg
    rw [hg]
    omega
theorem bst2_inv {p : List Int} {s : List Int × List Int} {c : Nat} (hc : c + 1 ≤ p.length) (h : PInv true p s (c + 1)) (e : iabs (s.1.getD 0 0) = (c : Int) + 1) :
    PInv true p (bst2 s) (c + 1) ∧ (bst2 s).1.getD 0 0 = -((c : Int) + 1) ∧ (bst2 s).2.length ≤ s.2.length + 1 := by
  have hlen := h.len
  unfold bst2
  by_cases e1 : 0 < s.1.getD 0 0
  · rw [if_pos e1]
    refine ⟨h.put (k := 1) (by omega) (by omega) hc, ?_, ?_⟩
    · show (tflip true s.1 1).getD 0 0 = _
      rw [tflip_lt true (by omega) (by omega)]
      show -(s.1.getD 0 0) = _
      rw [iabs_pos (by omega)] at e
      rw [e]
    · rw [List.length_append]
      exact Nat.le_refl _
  · rw [if_neg e1]
    refine ⟨h, ?_, Nat.le_succ _⟩
    have := iabs_cases (s.1.getD 0 0)
    omega
theorem bstep_inv {p : List Int} {s : List Int × List Int} {c : Nat} (hc : c + 1 ≤ p.length) (h : PInv true p s (c + 1)) : PInv true p (bstep (c + 1) s) c ∧ (bstep (c + 1) s).2.length ≤ s.2.length + (if c = 0 then (if s.1.getD 0 0 = 1 then 0 else if 0 < s.1.getD 0 0 then 2 else 1) else 3) := by
  obtain ⟨hb, i1, a1, l1⟩ := bst1_inv hc h
  obtain ⟨i2, a2, l2⟩ := bst2_inv hc i1 a1
  have hlen := i2.len
  unfold bstep
  by_cases e1 : s.1.getD (c + 1 - 1) 0 = ((c + 1 : Nat) : Int)
  · rw [if_pos e1]
    refine ⟨h.down (by rw [show c = c + 1 - 1 by omega, e1]; omega), Nat.le_add_right _ _⟩
  · rw [if_neg e1]
    refine ⟨(i2.put (k := c + 1) (by omega) (Nat.le_refl _) hc).down ?_, ?_⟩
    · show (tflip true (bst2 (bst1 (c + 1) s)).1 (c + 1)).getD c 0 = _
      rw [tflip_lt true (by omega) (Nat.lt_succ_self _), show c + 1 - 1 - c = 0 by omega, a2]
      show - -((c : Int) + 1) = _
      omega
    · rw [List.length_append]
      show (bst2 (bst1 (c + 1) s)).2.length + 1 ≤ _
      by_cases hc0 : c = 0
      · subst hc0
        rw [if_pos rfl]
        rw [if_pos rfl] at l1
        have hs : bst1 (0 + 1) s = s := by
          unfold bst1
          rw [if_neg (by omega)]
        rw [hs] at l2 l1 ⊢
        rw [if_neg (show ¬ s.1.getD 0 0 = 1 from fun h => e1 (by rw [show 0 + 1 - 1 = 0 from rfl, h]; rfl))]
        by_cases h0 : 0 < s.1.getD 0 0
        · rw [if_pos h0]
          omega
        · rw [if_neg h0]
          have : bst2 s = s := by
            unfold bst2
            rw [if_neg h0]
          rw [this]
          exact Nat.le_refl _
      · rw [if_neg hc0] at l1 ⊢
        omega
theorem bst_inv {p : List Int} (hp : IsBurnt p) : ∀ i, i ≤ p.length → PInv true p (bst p i) (p.length - i) ∧ (i < p.length → (bst p i).2.length ≤ 3 * i) ∧ (i = p.length → (bst p i).2.length ≤ 3 * i - 2)
  | 0, _ => ⟨⟨hp, rfl, fun j h1 h2 => absurd h2 (by show ¬ j < p.length; omega), rfl, fun t ht => absurd ht (by show ¬ t ∈ []; simp)⟩, fun _ => Nat.le_refl _, fun _ => Nat.zero_le _⟩
  | i + 1, hi => by
    obtain ⟨ih, l1, l2⟩ := bst_inv hp i (by omega)
    have e : p.length - i = (p.length - (i + 1)) + 1 := by omega
    have ih' : PInv true p (bst p i) ((p.length - (i + 1)) + 1) := by rw [← e]; exact ih
    obtain ⟨n1, n2⟩ := bstep_inv (c := p.length - (i + 1)) (by omega) ih'
    have e3 : bst p (i + 1) = bstep ((p.length - (i + 1)) + 1) (bst p i) := by
      show bstep (p.length - i) (bst p i) = _
      rw [e]
    have l1 := l1 (by omega)
    rw [e3]
    refine ⟨n1, fun hs => ?_, fun hs => ?_⟩
    · rw [if_neg (by omega)] at n2
      omega
    · have hz : p.length - (i + 1) = 0 := by omega
      rw [hz] at ih'
      obtain ⟨_, _, a1, _⟩ := bst1_inv (c := 0) (by omega) ih'
      have hs1 : bst1 (0 + 1) (bst p i) = bst p i := by
        have := (bst1_inv (c := 0) (by omega) ih').1
        unfold bst1
        rw [if_neg (by omega)]
      rw [hs1] at a1
      have := iabs_cases ((bst p i).1.getD 0 0)
      rw [if_pos hz] at n2
      rw [hz]
      rw [hz] at n2
      split at n2
      · omega
      · rename_i h1
        rw [if_neg (by omega)] at n2
        omega
def bplanOf (p : List Int) : List Int := (bst p p.length).2
theorem bplan_sorts {p : List Int} (hp : IsBurnt p) : Sorts true p (bplanOf p) ∧ (bplanOf p).length ≤ 3 * p.length - 2 := by
  obtain ⟨a, _, c⟩ := bst_inv hp p.length (Nat.le_refl _)
  rw [Nat.sub_self] at a
  refine ⟨⟨a.ok, ?_⟩, c rfl⟩
  unfold bplanOf
  rw [← a.beh, placed_all a.pl, a.len]
end FL
namespace FL
open PySem PySem.Spec PyProof.Rows L2
/-! ## the fewest turns -/
theorem least_nat (P : Nat → Prop) : ∀ n, P n → ∃ m, P m ∧ ∀ k, k < m → ¬ P k := by
  intro n
  induction n using Nat.strongRecOn with
  | _ n ih =>
    intro h
    by_cases e : ∃ k, k < n ∧ P k
    · obtain ⟨k, hk, pk⟩ := e
      exact ih k hk pk
    · exact ⟨n, h, fun k hk pk => e ⟨k, hk, pk⟩⟩
def Dist (b : Bool) (p : List Int) (m : Nat) : Prop := (∃ ts, Sorts b p ts ∧ ts.length = m) ∧ ∀ ts, Sorts b p ts → m ≤ ts.length
theorem dist_ex {b : Bool} {p ts : List Int} (h : Sorts b p ts) : ∃ m, Dist b p m := by
  obtain ⟨m, ⟨us, h1, h2⟩, h3⟩ := least_nat (fun m => ∃ us, Sorts b p us ∧ us.length = m) _ ⟨ts, h, rfl⟩
  exact ⟨m, ⟨us, h1, h2⟩, fun vs hv => Nat.le_of_not_lt fun hl => h3 _ hl ⟨vs, hv, rfl⟩⟩
open Classical in
noncomputable def dist (b : Bool) (p : List Int) : Nat := if h : ∃ m, Dist b p m then choose h else 0
theorem dist_of {b : Bool} {p : List Int} (h : ∃ m, Dist b p m) : Dist b p (dist b p) := by
  unfold dist
  rw [dif_pos h]
  exact Classical.choose_spec h
theorem IsP.sorts {b : Bool} {p : List Int} (h : IsP b p) : ∃ ts, Sorts b p ts := by
  cases b with
  | true => exact ⟨_, (bplan_sorts h).1⟩
  | false => exact ⟨_, (plan_sorts h).1⟩
theorem dist_spec {b : Bool} {p : List Int} (h : IsP b p) : Dist b p (dist b p) := by
  obtain ⟨ts, hts⟩ := h.sorts
  exact dist_of (dist_ex hts)
theorem dist_le {b : Bool} {p ts : List Int} (h : Sorts b p ts) : dist b p ≤ ts.length := (dist_of (dist_ex h)).2 ts h
theorem sorts_cons {b : Bool} {p ts : List Int} {t : Nat} (h1 : 1 ≤ t) (h2 : t ≤ p.length) (h : Sorts b (tflip b p t) ts) : Sorts b p ((t : Int) :: ts) where
  ok := fun u hu => by
    rcases List.mem_cons.mp hu with e | m
    · rw [e]
      omega
    · have := h.ok u m
      rw [tflip_length] at this
      exact this
  e := by
    rw [tbehind_cons, Int.toNat_natCast, h.e, tflip_length]
theorem sorts_tail {b : Bool} {p ts : List Int} {t : Int} (h : Sorts b p (t :: ts)) : 1 ≤ t.toNat ∧ t.toNat ≤ p.length ∧ ((t.toNat : Nat) : Int) = t ∧ Sorts b (tflip b p t.toNat) ts := by
  have h1 := h.ok t List.mem_cons_self
  refine ⟨by omega, by omega, by omega, fun u hu => ?_, ?_⟩
  · rw [tflip_length]
    exact h.ok u (List.mem_cons_of_mem _ hu)
  · rw [tflip_length]
    exact h.e
theorem dist_down {b : Bool} {p : List Int} (h : IsP b p) {t : Nat} (h1 : 1 ≤ t) (h2 : t ≤ p.length) : dist b p ≤ dist b (tflip b p t) + 1 := by
  obtain ⟨⟨ts, s, l⟩, _⟩ := dist_spec (h.flip t)
  have := dist_le (sorts_cons h1 h2 s)
  rw [List.length_cons, l] at this
  exact this
theorem dist_up {b : Bool} {p : List Int} (h : IsP b p) {t : Nat} (h1 : 1 ≤ t) (h2 : t ≤ p.length) : dist b (tflip b p t) ≤ dist b p + 1 := by
  have := dist_down (h.flip t) h1 (by rw [tflip_length]; exact h2)
  rw [tflip_tflip b h2] at this
  exact this
theorem dist_step {b : Bool} {p : List Int} (h : IsP b p) {m : Nat} (e : dist b p = m + 1) : ∃ t, 1 ≤ t ∧ t ≤ p.length ∧ dist b (tflip b p t) = m := by
  obtain ⟨⟨ts, s, l⟩, _⟩ := dist_spec h
  rw [e] at l
  cases ts with
  | nil => exact absurd l (by simp)
  | cons t ts =>
    obtain ⟨h1, h2, h3, h4⟩ := sorts_tail s
    refine ⟨t.toNat, h1, h2, ?_⟩
    have := dist_le h4
    have := dist_down h h1 h2
    simp at l
    omega
theorem dist_zero {b : Bool} {p : List Int} (h : IsP b p) : dist b p = 0 ↔ p = upto p.length := by
  constructor
  · intro e
    obtain ⟨⟨ts, s, l⟩, _⟩ := dist_spec h
    rw [e] at l
    have := List.length_eq_zero_iff.mp l
    rw [this] at s
    exact s.e
  · intro e
    have : Sorts b p [] := ⟨fun t ht => absurd ht (by simp), e⟩
    have := dist_le this
    simp at this
    exact this
theorem gapn_dist {b : Bool} {p : List Int} (h : IsP b p) : gapn b p ≤ dist b p := by
  obtain ⟨⟨ts, s, l⟩, _⟩ := dist_spec h
  rw [← l]
  exact s.gaps
theorem gapn_zero {b : Bool} {p : List Int} (h : IsP b p) : gapn b p = 0 ↔ dist b p = 0 := by
  constructor
  · intro e
    exact (dist_zero h).mpr (h.order e)
  · intro e
    have := gapn_dist h
    omega
/-- the first of the fewest -/
noncomputable def fst (b : Bool) : Nat → List Int → List Int
  | 0, _ => []
  | m + 1, p => match (List.range p.length).find? (fun i => decide (dist b (tflip b p (i + 1)) = m)) with
    | some i => ((i + 1 : Nat) : Int) :: fst b m (tflip b p (i + 1))
    | none => []
noncomputable def few (b : Bool) (p : List Int) : List Int := fst b (dist b p) p
theorem find_first {f : Nat → Bool} : ∀ m i : Nat, i < m → f i = true → (∀ j, j < i → f j = false) → (List.range m).find? f = some i
  | 0, _, h, _, _ => absurd h (Nat.not_lt_zero _)
  | m + 1, i, h, e, n => by
    rw [List.range_succ, List.find?_append]
    by_cases c : i < m
    · rw [find_first m i c e n]
      rfl
    · have c2 : i = m := by omega
      subst c2
      have : (List.range i).find? f = none := List.find?_eq_none.mpr fun j hj => by
        rw [n j (List.mem_range.mp hj)]
        exact Bool.false_ne_true
      rw [this, List.find?_cons, e]
      rfl
theorem findSome_first {α : Type} {f : Nat → Option α} {x : α} : ∀ m i : Nat, i < m → f i = some x → (∀ j, j < i → f j = none) → (List.range m).findSome? f = some x
  | 0, _, h, _, _ => absurd h (Nat.not_lt_zero _)
  | m + 1, i, h, e, n => by
    rw [List.range_succ, List.findSome?_append]
    by_cases c : i < m
    · rw [findSome_first m i c e n]
      rfl
    · have c2 : i = m := by omega
      subst c2
      have : (List.range i).findSome? f = none := List.findSome?_eq_none_iff.mpr fun j hj => n j (List.mem_range.mp hj)
      rw [this, List.findSome?_cons, e]
      rfl
theorem findSome_none {α : Type} {f : Nat → Option α} {m : Nat} (n : ∀ j, j < m → f j = none) : (List.range m).findSome? f = none := List.findSome?_eq_none_iff.mpr fun j hj => n j (List.mem_range.mp hj)
/-- one step of the first of the fewest -/
theorem few_step {b : Bool} {p : List Int} (h : IsP b p) {m : Nat} (e : dist b p = m + 1) :
    ∃ t, 1 ≤ t ∧ t ≤ p.length ∧ dist b (tflip b p t) = m ∧ (∀ u, 1 ≤ u → u < t → dist b (tflip b p u) ≠ m) ∧ few b p = (t : Int) :: few b (tflip b p t) := by
  obtain ⟨t0, h1, h2, h3⟩ := dist_step h e
  obtain ⟨t, ⟨g1, g2, g3⟩, g4⟩ := least_nat (fun t => 1 ≤ t ∧ t ≤ p.length ∧ dist b (tflip b p t) = m) t0 ⟨h1, h2, h3⟩
  refine ⟨t, g1, g2, g3, fun u hu ht hd => g4 u ht ⟨hu, by omega, hd⟩, ?_⟩
  unfold few
  rw [e, g3]
  have hf : (List.range p.length).find? (fun i => decide (dist b (tflip b p (i + 1)) = m)) = some (t - 1) := by
    refine find_first _ _ (by omega) ?_ fun j hj => ?_
    · rw [show t - 1 + 1 = t by omega]
      exact decide_eq_true g3
    · refine decide_eq_false fun hd => g4 (j + 1) (by omega) ⟨by omega, by omega, hd⟩
  show (match (List.range p.length).find? (fun i => decide (dist b (tflip b p (i + 1)) = m)) with
    | some i => ((i + 1 : Nat) : Int) :: fst b m (tflip b p (i + 1))
    | none => []) = _
  rw [hf]
  show ((t - 1 + 1 : Nat) : Int) :: fst b m (tflip b p (t - 1 + 1)) = _
  rw [show t - 1 + 1 = t by omega]
theorem few_zero {b : Bool} {p : List Int} (e : dist b p = 0) : few b p = [] := by
  unfold few
  rw [e]
  rfl
theorem few_sorts {b : Bool} : ∀ (m : Nat) {p : List Int}, IsP b p → dist b p = m → Sorts b p (few b p) ∧ (few b p).length = m
  | 0, p, h, e => by
    rw [few_zero e]
    exact ⟨⟨fun t ht => absurd ht (by simp), (dist_zero h).mp e⟩, rfl⟩
  | m + 1, p, h, e => by
    obtain ⟨t, h1, h2, h3, _, h5⟩ := few_step h e
    obtain ⟨i1, i2⟩ := few_sorts m (h.flip t) h3
    rw [h5]
    refine ⟨sorts_cons h1 h2 i1, ?_⟩
    rw [List.length_cons, i2]
theorem few_ok {b : Bool} {p : List Int} (h : IsP b p) : Sorts b p (few b p) := (few_sorts _ h rfl).1
theorem few_len {b : Bool} {p : List Int} (h : IsP b p) : (few b p).length = dist b p := (few_sorts _ h rfl).2
theorem few_first {b : Bool} {p : List Int} (h : IsP b p) {t : Nat} (h1 : 1 ≤ t) (h2 : t ≤ p.length) (e : dist b (tflip b p t) + 1 = dist b p) (n : ∀ u, 1 ≤ u → u < t → dist b (tflip b p u) + 1 ≠ dist b p) : few b p = (t : Int) :: few b (tflip b p t) := by
  obtain ⟨v, v1, v2, v3, v4, v5⟩ := few_step h e.symm
  have ev : v = t := by
    rcases Nat.lt_trichotomy v t with c | c | c
    · exact absurd (by omega) (n v v1 c)
    · exact c
    · exact absurd rfl (v4 t h1 c)
  rw [v5, ev]
theorem few_none {b : Bool} {p : List Int} (h : IsP b p) (n : ∀ u, 1 ≤ u → u ≤ p.length → dist b (tflip b p u) + 1 ≠ dist b p) : few b p = [] := by
  refine few_zero ?_
  cases e : dist b p with
  | zero => rfl
  | succ m =>
    obtain ⟨t, h1, h2, h3⟩ := dist_step h e
    exact absurd (by omega) (n t h1 h2)
theorem few_nil {b : Bool} {p : List Int} (h : IsP b p) : few b p = [] ↔ p = upto p.length := by
  rw [← dist_zero h, ← few_len h, List.length_eq_zero_iff]
/-! ### the search -/
def lo (b : Bool) : Nat := if b = true then 1 else 2
def srch (b : Bool) : Nat → List Int → Nat → Option (List Int)
  | 0, p, _ => if gapn b p = 0 then some [] else none
  | l + 1, p, last => if gapn b p = 0 then some [] else if l + 1 < gapn b p then none else
    (List.range (p.length + 1 - lo b)).findSome? fun i => if lo b + i = last then none else (srch b l (tflip b p (lo b + i)) (lo b + i)).map fun ts => ((lo b + i : Nat) : Int) :: ts
theorem lo_pos (b : Bool) : 1 ≤ lo b := by cases b <;> decide
theorem pflip_one (p : List Int) : pflip p 1 = p := by
  cases p with
  | nil => rfl
  | cons x xs => rfl
theorem lo_low {b : Bool} {p : List Int} {u : Nat} (h1 : 1 ≤ u) (h2 : u < lo b) : tflip b p u = p := by
  cases b with
  | true => exact absurd h2 (by show ¬ u < 1; omega)
  | false =>
    have h2 : u < 2 := h2
    have : u = 1 := by omega
    subst this
    exact pflip_one p
theorem srch_none {b : Bool} : ∀ (l : Nat) {p : List Int} {last : Nat}, IsP b p → l < dist b p → srch b l p last = none
  | 0, p, last, h, hd => by
    unfold srch
    rw [if_neg (fun e => by have := (gapn_zero h).mp e; omega)]
  | l + 1, p, last, h, hd => by
    unfold srch
    rw [if_neg (fun e => by have := (gapn_zero h).mp e; omega)]
    by_cases hg : l + 1 < gapn b p
    · rw [if_pos hg]
    · rw [if_neg hg]
      refine findSome_none fun j hj => ?_
      have hl := lo_pos b
      by_cases e : lo b + j = last
      · rw [if_pos e]
      · rw [if_neg e, srch_none l (h.flip _) (by have := dist_down h (t := lo b + j) (by omega) (by omega); omega)]
        rfl
theorem srch_some {b : Bool} : ∀ (l : Nat) {p : List Int} {last : Nat}, IsP b p → dist b p = l → dist b (tflip b p last) + 1 ≠ dist b p → srch b l p last = some (few b p)
  | 0, p, last, h, hd, _ => by
    unfold srch
    rw [if_pos ((gapn_zero h).mpr hd), few_zero hd]
  | l + 1, p, last, h, hd, hl => by
    have hg := gapn_dist h
    unfold srch
    rw [if_neg (fun e => by have := (gapn_zero h).mp e; omega), if_neg (by omega)]
    obtain ⟨t, h1, h2, h3, h4, h5⟩ := few_step h hd
    have ht : lo b ≤ t := Nat.le_of_not_lt fun hc => by
      rw [lo_low h1 hc] at h3
      omega
    have et : lo b + (t - lo b) = t := by omega
    refine findSome_first _ (t - lo b) (by omega) ?_ fun j hj => ?_
    · rw [et, if_neg (fun e => hl (by rw [← e, h3, hd])), srch_some l (h.flip t) h3 (by rw [tflip_tflip b h2, h3, hd]; omega), h5]
      rfl
    · have hp := lo_pos b
      by_cases e : lo b + j = last
      · rw [if_pos e]
      · rw [if_neg e, srch_none l (h.flip _) ?_]
        · rfl
        · have a := h4 (lo b + j) (by omega) (by omega)
          have c := dist_down h (t := lo b + j) (by omega) (by omega)
          omega
theorem tflip_zero (b : Bool) (p : List Int) : tflip b p 0 = p := by
  rw [tflip_g]
  rfl
theorem srch_first {b : Bool} {p : List Int} (h : IsP b p) : srch b (dist b p) p 0 = some (few b p) := srch_some _ h rfl (by rw [tflip_zero]; omega)
def sstep (b : Bool) (l : Nat) (p : List Int) (last : Nat) (i : Nat) : Option (List Int) := if lo b + i = last then none else (srch b l (tflip b p (lo b + i)) (lo b + i)).map fun ts => ((lo b + i : Nat) : Int) :: ts
theorem srch_gap0 {b : Bool} {l : Nat} {p : List Int} {last : Nat} (h : gapn b p = 0) : srch b l p last = some [] := by
  cases l with
  | zero =>
    unfold srch
    rw [if_pos h]
  | succ l =>
    unfold srch
    rw [if_pos h]
theorem srch_big {b : Bool} {l : Nat} {p : List Int} {last : Nat} (h : l < gapn b p) : srch b l p last = none := by
  cases l with
  | zero =>
    unfold srch
    rw [if_neg (by omega)]
  | succ l =>
    unfold srch
    rw [if_neg (by omega), if_pos h]
theorem srch_go {b : Bool} {l : Nat} {p : List Int} {last : Nat} (h0 : gapn b p ≠ 0) (h : ¬ l + 1 < gapn b p) : srch b (l + 1) p last = (List.range (p.length + 1 - lo b)).findSome? (sstep b l p last) := by
  rw [srch, if_neg h0, if_neg h] <;> rfl
theorem srch_len {b : Bool} : ∀ (l : Nat) {p ts : List Int} {last : Nat}, srch b l p last = some ts → ts.length ≤ l
  | 0, p, ts, last, h => by
    unfold srch at h
    split at h
    · cases h
      exact Nat.le_refl _
    · cases h
  | l + 1, p, ts, last, h => by
    by_cases h0 : gapn b p = 0
    · rw [srch_gap0 h0] at h
      cases h
      exact Nat.zero_le _
    by_cases h1 : l + 1 < gapn b p
    · rw [srch_big h1] at h
      cases h
    rw [srch_go h0 h1] at h
    obtain ⟨i, _, hi⟩ := List.exists_of_findSome?_eq_some h
    unfold sstep at hi
    split at hi
    · cases hi
    · obtain ⟨us, e1, e2⟩ := Option.map_eq_some_iff.mp hi
      have := srch_len l e1
      rw [← e2, List.length_cons]
      omega
/-! ### the way back -/
def OkTs (n : Nat) (ts : List Int) : Prop := ∀ t ∈ ts, 0 ≤ t ∧ t ≤ n
theorem behind_back (b : Bool) : ∀ (ts p : List Int), OkTs p.length ts → tbehind b (tbehind b p ts) ts.reverse = p
  | [], _, _ => rfl
  | t :: ts, p, h => by
    have h1 := h t List.mem_cons_self
    rw [List.reverse_cons, tbehind_cons, tbehind_snoc, behind_back b ts _ (fun u hu => by rw [tflip_length]; exact h u (List.mem_cons_of_mem _ hu)), tflip_tflip b (by omega)]
/-- a pile that came of the one in order -/
theorem made_dist (b : Bool) {n : Nat} {ts : List Int} (h : ∀ t ∈ ts, 1 ≤ t ∧ t ≤ (n : Int)) : dist b (tbehind b (upto n) ts) ≤ ts.length := by
  have : Sorts b (tbehind b (upto n) ts) ts.reverse := ⟨fun t ht => by
    have := h t (List.mem_reverse.mp ht)
    rw [tbehind_length, upto_length]
    exact this, by
    rw [behind_back b ts _ (fun t ht => by have := h t ht; rw [upto_length]; omega), tbehind_length, upto_length]⟩
  have := dist_le this
  rw [List.length_reverse] at this
  exact this
theorem moved_dist (b : Bool) : ∀ (ts : List Int) {p : List Int}, IsP b p → (∀ t ∈ ts, 1 ≤ t ∧ t ≤ (p.length : Int)) → dist b (tbehind b p ts) ≤ dist b p + ts.length ∧ dist b p ≤ dist b (tbehind b p ts) + ts.length
  | [], _, _, _ => ⟨Nat.le_refl _, Nat.le_refl _⟩
  | t :: ts, p, h, ok => by
    have h1 := ok t List.mem_cons_self
    obtain ⟨i1, i2⟩ := moved_dist b ts (h.flip t.toNat) (fun u hu => by rw [tflip_length]; exact ok u (List.mem_cons_of_mem _ hu))
    have a := dist_down h (t := t.toNat) (by omega) (by omega)
    have c := dist_up h (t := t.toNat) (by omega) (by omega)
    rw [tbehind_cons, List.length_cons]
    omega
/-! ### between two piles -/
def relab (other one : List Int) : List Int := one.map fun c => ((other.idxOf c : Nat) : Int) + 1
theorem relab_length (o p : List Int) : (relab o p).length = p.length := List.length_map _
theorem relab_self {o : List Int} (nd : o.Nodup) : relab o o = upto o.length := by
  refine ext_getD (by rw [relab_length, upto_length]) fun k hk => ?_
  rw [relab_length] at hk
  rw [upto_getD hk]
  unfold relab
  rw [List.getD_eq_getElem?_getD, List.getElem?_map, List.getElem?_eq_getElem hk]
  show ((o.idxOf o[k] : Nat) : Int) + 1 = _
  have := idx_at nd hk
  rw [List.getD_eq_getElem?_getD, List.getElem?_eq_getElem hk] at this
  have h2 : o.idxOf o[k] = k := this
  rw [h2]
  omega
theorem relab_upto {p : List Int} (h : IsPile p) : relab (upto p.length) p = p := by
  unfold relab
  have : p.map (fun c => (((upto p.length).idxOf c : Nat) : Int) + 1) = p.map id := List.map_congr_left fun c hc => by
    have hm := h.mem.mp hc
    have h1 : c.toNat - 1 < (upto p.length).length := by rw [upto_length]; omega
    have h2 := idx_at (upto_nodup p.length) h1
    rw [upto_getD (by rw [upto_length] at h1; exact h1), show (1 : Int) + ((c.toNat - 1 : Nat) : Int) = c by omega] at h2
    rw [h2]
    show ((c.toNat - 1 : Nat) : Int) + 1 = c
    omega
  rw [this, List.map_id]
theorem pile_perm {o p : List Int} (ho : IsPile o) (hp : IsPile p) (e : o.length = p.length) : p.Perm o := hp.2.2.trans (by rw [← e]; exact ho.2.2.symm)
theorem relab_pile {o p : List Int} (ho : IsPile o) (hp : IsPile p) (e : o.length = p.length) : IsPile (relab o p) := by
  unfold IsPile
  rw [relab_length]
  refine ⟨hp.1, hp.2.1, ?_⟩
  have h1 : (relab o p).Perm (relab o o) := (pile_perm ho hp e).map _
  rw [relab_self ho.nodup, e] at h1
  exact h1
theorem relab_flip (o p : List Int) (k : Nat) : relab o (tflip false p k) = tflip false (relab o p) k := by
  show relab o (pflip p k) = pflip (relab o p) k
  unfold relab pflip
  rw [List.map_append, List.map_reverse, List.map_take, List.map_drop]
theorem relab_behind (o : List Int) : ∀ (ts p : List Int), relab o (tbehind false p ts) = tbehind false (relab o p) ts
  | [], _ => rfl
  | t :: ts, p => by rw [tbehind_cons, tbehind_cons, relab_behind o ts, relab_flip]
theorem relab_back {o p : List Int} (h : ∀ c ∈ p, c ∈ o) : (relab o p).map (fun x => o.getD (x - 1).toNat 0) = p := by
  unfold relab
  rw [List.map_map]
  have : p.map ((fun x => o.getD (x - 1).toNat 0) ∘ fun c => ((o.idxOf c : Nat) : Int) + 1) = p.map id := List.map_congr_left fun c hc => by
    show o.getD (((o.idxOf c : Nat) : Int) + 1 - 1).toNat 0 = c
    rw [show (((o.idxOf c : Nat) : Int) + 1 - 1).toNat = o.idxOf c by omega]
    exact (idx_get (h c hc)).2
  rw [this, List.map_id]
theorem relab_inj {o p q : List Int} (h1 : ∀ c ∈ p, c ∈ o) (h2 : ∀ c ∈ q, c ∈ o) (e : relab o p = relab o q) : p = q := by
  rw [← relab_back h1, e, relab_back h2]
theorem tbehind_perm (ts : List Int) : ∀ p : List Int, (tbehind false p ts).Perm p := by
  induction ts with
  | nil => exact fun p => List.Perm.refl _
  | cons t ts ih =>
    intro p
    rw [tbehind_cons]
    exact (ih _).trans (pflip_perm p t.toNat)
/-- turns that sort the one with its cakes called by their places make the other -/
theorem relab_sorts {o p ts : List Int} (ho : IsPile o) (hp : IsPile p) (e : o.length = p.length) : Sorts false (relab o p) ts ↔ (∀ t ∈ ts, 1 ≤ t ∧ t ≤ p.length) ∧ tbehind false p ts = o := by
  have pm := pile_perm ho hp e
  constructor
  · rintro ⟨h1, h2⟩
    rw [relab_length] at h1 h2
    refine ⟨h1, ?_⟩
    rw [← relab_behind, ← e, ← relab_self ho.nodup] at h2
    exact relab_inj (fun c hc => pm.mem_iff.mp ((tbehind_perm ts p).mem_iff.mp hc)) (fun c hc => hc) h2
  · rintro ⟨h1, h2⟩
    refine ⟨by rw [relab_length]; exact h1, ?_⟩
    rw [relab_length, ← relab_behind, h2, relab_self ho.nodup, e]
theorem relab_dist_le {o p : List Int} (ho : IsPile o) (hp : IsPile p) (e : o.length = p.length) : dist false (relab p o) ≤ dist false (relab o p) := by
  obtain ⟨⟨ts, s, l⟩, _⟩ := dist_spec (b := false) (relab_pile ho hp e)
  obtain ⟨h1, h2⟩ := (relab_sorts ho hp e).mp s
  have hb : tbehind false o ts.reverse = p := by
    rw [← h2]
    exact behind_back false ts p fun t ht => by have := h1 t ht; omega
  have := dist_le ((relab_sorts hp ho e.symm).mpr ⟨fun t ht => by rw [e]; exact h1 t (List.mem_reverse.mp ht), hb⟩)
  rw [List.length_reverse] at this
  omega
theorem relab_dist {o p : List Int} (ho : IsPile o) (hp : IsPile p) (e : o.length = p.length) : dist false (relab p o) = dist false (relab o p) :=
  Nat.le_antisymm (relab_dist_le ho hp e) (relab_dist_le hp ho e.symm)
theorem relab_nil {o p : List Int} (ho : IsPile o) (hp : IsPile p) (e : o.length = p.length) : few false (relab o p) = [] ↔ p = o := by
  have hr := relab_pile ho hp e
  have hl := few_len (b := false) hr
  have pm := pile_perm ho hp e
  constructor
  · intro h
    rw [h] at hl
    have h0 := (dist_zero (b := false) hr).mp hl.symm
    rw [relab_length, ← e, ← relab_self ho.nodup] at h0
    exact relab_inj (fun c hc => pm.mem_iff.mp hc) (fun c hc => hc) h0
  · intro h
    subst h
    exact few_zero ((dist_zero (b := false) hr).mpr (by rw [relab_length, relab_self ho.nodup]))
end FL
namespace FL
open PySem PySem.Spec PyProof.Rows L2
/-! ## a def that is handed the exception which a suite holds -/
structure FnE (P : Program) (w : World) (K : PySem.W.Frag) (mg : Str → Option Value) (base : Heap) (k : Nat) (f : Addr) (fd : FuncData) (ps : List Str) (sp : Addr × Obj → Sp) : Prop where
  many : ∀ z vs H Q E, sp z vs H Q E → vs.length = ps.length
  go : ∀ (z : Addr × Obj) (A : Around) (outer : List Env) (s : Shared) (H : Hp) (ar : Args) (us : List Value) (vs : List V) (Q : VK), L2H.RoomH k A → L2H.PinOk outer H s z → Env0 P w K mg base A outer s H → BindsTo s fd ar (ps.zip us) → Vals vs us → sp z vs H Q (fun _ _ _ => False) →
    codeAny (model P w) A (.call (.ref f) ar) (CR CX0 outer P w H s Q fun _ _ _ => False) s
theorem fnE_of {P : Program} {w : World} {K : PySem.W.Frag} {mg : Str → Option Value} {base : Heap} {x qual : Str} {st : Stmt} {f : Addr} {fd : FuncData} {N ps : List Str} {k : Nat} {sp : Addr × Obj → Sp} (F : Fun K x qual st f fd) (S : FnScope N ps (defScope st))
    (many : ∀ z vs H Q E, sp z vs H Q E → vs.length = ps.length)
    (hbody : ∀ (z : Addr × Obj) (cdv : Value) (A : Around) (outer : List Env) (s : Shared) (H : Hp) (vs : List V) (Q : VK), L2H.RoomH k (A.deeper (envOfC qual (defScope st) s.heap.objs.size f cdv)) → sp z vs H Q (fun _ _ _ => False) →
      ∃ t, PSs (L2H.cxH CX0 P w K mg base N qual (defScope st) f cdv A outer s H (fun _ _ _ => False) z) (defBody st) t ∧ t { nx := fun _ H' => Q .non H', rt := Q } (L2.start N vs) H) :
    FnE P w K mg base (k + 1) f fd ps sp := by
  obtain ⟨oc, od, kV, doc, pm, an, cdv, ct, osl, rfl, lk, hcd⟩ := F.ex
  refine ⟨many, fun z A outer s H ar us vs Q hr hz e0 bd rv hsp => ?_⟩
  have nn := many _ _ _ _ _ hsp
  have KX : K.In s.heap := e0.mod.kin.keeps fun c o e => (e0.bs c o e).1
  have lim : s.heap.NoLimit := e0.mod.nolimit.keeps fun c o e => (e0.bs c o e).1
  have kinds : ∀ y ∈ ps.zip us, (defScope st).names.lookup y.1 = some .local ∨ ((defScope st).names.lookup y.1 = some .cell ∧ ((cellsFrom (s.heap.objs.size + 1) (defScope st).names []).lookup y.1).isSome = true) := by
    rintro ⟨n, v⟩ hy
    rcases S.par n (List.of_mem_zip hy).1 with c | c
    · exact .inl c
    · exact .inr ⟨c, PySem.W.cellsFrom_some _ _ _ (.inl c)⟩
  refine codeAny_call_function hr.depth (KX _ _ lk) rfl S.co S.gen rfl (PySem.W.codeRec_of KX hcd) (bd _ _ _ _ (wpAny_newFunctionEnv_cells S.kind kinds fun env he s1 ic => ?_))
  subst he
  obtain ⟨t, pt, ht⟩ := hbody z cdv A outer s H vs Q (hr.deeper _) hsp
  have I := L2H.inv_startH (CX := CX0) (E := fun _ _ _ => False) S hz e0 nn rv ic
  refine ⟨lim.keeps ic.toInCall.keep, codeAny_func (wpAny_mono (pt.run [] s1 (L2.start N vs) H _ I ht) (fun fl s2 hs => ?_) fun _ _ hs => hs)⟩
  cases fl with
  | brk => exact False.elim hs.choose_spec.choose_spec.2
  | cont => exact False.elim hs.choose_spec.choose_spec.2
  | next =>
    obtain ⟨σ2, H2, J, q⟩ := hs
    exact ⟨V.non, H2, J.os, J.bare, J.base, J.hok, rfl, q⟩
  | ret u =>
    obtain ⟨v, σ2, H2, J, ru, q⟩ := hs
    exact ⟨v, H2, J.os, J.bare, J.base, J.hok, ru, q⟩
section
variable {X : Cx} {k : Nat} {f : Addr} {fd : FuncData} {ps : List Str} {sp : Addr × Obj → Sp} {x : Str} {q pos : Pos} {e : Expr} {es : List Expr} {t : TA} {z : Addr × Obj}
theorem pe_callE (F : FnE X.prog X.w X.K X.mg X.base k f fd ps sp) (hr : L2H.RoomH k X.A) (hz : z ∈ X.pn) (hg : Gl X x) (hm : X.mg x = some (.ref f)) (hk : PySem.W.keepIn X.K (.ref f) = true) (hb : Binds X.K fd ps [])
    (ha : PA X (e :: es) t) (hdb : (x == ("__debug__" : Str)) = false := by decide) (he : starEach (e :: es) X.env = (false, eval e X.env) :: starEach es X.env := by rfl) (hpl : (backTo pos (starEach es X.env)).any (·.1) = false := by rfl) :
    PE X (.Call (.Name x q) (e :: es) [] pos) (fun σ H Q => t σ H fun vs H1 => sp z vs H1 Q fun _ _ _ => False) := by
  refine ⟨fun pins s σ H Q I h => wpAny_Call_Name_kw (ld_glob I hg hm (PySem.W.callWith_K (h₀ := X.base) I.ok.mod.kin hk (thn (ha.run pos pins s σ H _ I h) fun us s1 ⟨vs, H1, J, rv, hsp⟩ => ⟨J.kIn, ?_⟩) he hpl) hdb)⟩
  have nn : us.length = ps.length := by
    rw [← rv.length]
    exact F.many _ _ _ _ _ hsp
  have bd := hb s1 us J.kIn (by rw [List.append_nil]; exact nn)
  rw [List.append_nil] at bd
  obtain ⟨g1, g2, g3, g4, g5⟩ := J.pin z (List.mem_append_left _ hz)
  have pz : L2H.PinOk X.stack H1 s1 z := ⟨g1, g2, fun hm => by
    rcases List.mem_cons.mp (J.stkSub z.1 hm) with c | c
    · exact g3 c
    · exact g4 c, g5⟩
  refine wpAny_call (codeAny_mono (F.go z X.A X.stack s1 H1 ⟨us, []⟩ us vs Q hr pz J.env0 bd rv hsp) fun r s2 hq => ?_)
  cases r with
  | error e => exact False.elim hq
  | ok fl =>
    cases fl with
    | ret u => exact J.after hq
    | next => exact False.elim hq
    | brk => exact False.elim hq
    | cont => exact False.elim hq
end
/-- isinstance of a pinned exception -/
def rIsP (K : PySem.W.Frag) (D a : Addr) : List V → Hp → VK → Prop := fun xs H Q => ∃ (c : V) (cv : Value) (b : Bool), xs = [.ref a, c] ∧ (∀ u, RelV c u → u = cv) ∧ PySem.W.kitOne K (.ref D) cv = some b ∧ Q (.bl b) H
theorem call_isP {X : Cx} {D : Addr} {z : Addr × Obj} (C : ExcC X.K D) (hp : z ∈ X.pn) (hz : Zc (.ref D) none z.2) (hf : ∃ vs, z.2.data = .fields vs) : CallR X (.builtin "isinstance") (rIsP X.K D z.1) := by
  rintro pins s σ H xs us Q I r ⟨c, cv, b, rfl, hcv, ek, q⟩
  match us, r with
  | [_, u], .cons r1 (.cons r2 .nil) =>
    cases r1
    obtain rfl := hcv _ r2
    obtain ⟨a, oe⟩ := z
    obtain ⟨hg, _⟩ := I.pin (a, oe) (List.mem_append_left _ hp)
    obtain ⟨vs, hv⟩ := hf
    have J : PySem.W.InstAt s.heap a oe D none := by
      obtain ⟨o1, o2, o3, o4⟩ := oe
      obtain ⟨z1, z2⟩ := hz
      dsimp only at z1 z2 hv
      subst z1 z2 hv
      exact ⟨hg, rfl, rfl, trivial⟩
    exact PySem.W.kia_one (PySem.W.handS_kitx_exc C.hg C.hk C.hs C.hd C.ha C.hn C.ht C.hm) I.kIn J ek (fun y => nomatch y) fun tk => ⟨.bl b, H, I.kept (t' := tk) fun _ _ y => y, rfl, q⟩
/-! ## methods and makings whose errors are caught or go on -/
section
variable {X : Cx} {W : WX} {k : Nat} {f C : Addr} {fd : FuncData} {ps : List Str} {sp : Sp} {x m : Str} {p pos apos : Pos} {e o : Expr} {es : List Expr} {ta : TE} {t : TA}
def tMet (C : Addr) (m : Str) (sp : Sp) (W : WX) (ta : TE) (t : TA) : TE := fun σ H Q => ta σ H fun x H1 => ∃ a dx fs, x = .ref a ∧ H1 a = some (.ins C dx fs) ∧ fs.lookup m = none ∧ t σ H1 fun vs H2 => sp (x :: vs) H2 Q (WE W σ)
theorem pe_metS {pl : Sem Bool} (he : PE X o ta) (c : Cls X.K C) (hm : Meth X.K C m f) (F : FnOk X.prog X.w X.K X.mg X.base (L2.CX X.prog X.w) k f fd ps sp) (hr : Room k X.A) (hb : Binds X.K fd ps []) (tk : Takes X W) (ha : PA X (e :: es) t)
    (hst : starEach (e :: es) X.env = (false, eval e X.env) :: starEach es X.env := by rfl) (hpl : (backTo pos (starEach es X.env)).any (·.1) = false := by rfl)
    (ht : eval (.Call (.Attribute o m apos) (e :: es) [] pos) X.env = (do
      let r0 ← eval o X.env
      standAt apos.atName
      let (g, fst) ← holding [r0] (getMethod r0 m pl)
      callWith pos g fst (backTo pos (starEach (e :: es) X.env)) (backToKw pos (keywordEach [] X.env))) := by rfl) :
    PE X (.Call (.Attribute o m apos) (e :: es) [] pos) (tMet C m sp W ta t) := by
  refine ⟨fun pins s σ H Q I h => PySem.W.methodCall_KW (pl := pl) (thn (he.run pins s σ H _ I h) fun u s1 ⟨y, H1, J, ry, a, dx, fs, ey, ea, l, q⟩ => ?_) ht⟩
  subst ey
  obtain rfl : u = Value.ref a := ry
  exact getmeth_ok J ea c hm l (PySem.W.callWith_K (first := [.ref a]) (h₀ := X.base) J.ok.mod.kin hm.kp (thn (ha.run pos pins s1 σ H1 _ J q) fun us s2 ⟨vs, H2, J2, r, q2⟩ => ⟨J2.kIn, run_fnS (E := WE W) (us := .ref a :: us) (vs := .ref a :: vs) F hr hb (passAt tk σ) J2 (.cons rfl r) q2⟩) hst hpl)
theorem pe_metS0 {pl : Sem Bool} (he : PE X o ta) (c : Cls X.K C) (hm : Meth X.K C m f) (F : FnOk X.prog X.w X.K X.mg X.base (L2.CX X.prog X.w) k f fd ps sp) (hr : Room k X.A) (hb : Binds X.K fd ps []) (tk : Takes X W)
    (ht : eval (.Call (.Attribute o m apos) [] [] pos) X.env = (do
      let r0 ← eval o X.env
      standAt apos.atName
      let (g, fst) ← holding [r0] (getMethod r0 m pl)
      callWith pos g fst (backTo pos (starEach [] X.env)) (backToKw pos (keywordEach [] X.env))) := by rfl) :
    PE X (.Call (.Attribute o m apos) [] [] pos) (tMet C m sp W ta tNil) := by
  refine ⟨fun pins s σ H Q I h => PySem.W.methodCall_KW (pl := pl) (thn (he.run pins s σ H _ I h) fun u s1 ⟨y, H1, J, ry, a, dx, fs, ey, ea, l, q⟩ => ?_) ht⟩
  subst ey
  obtain rfl : u = Value.ref a := ry
  exact getmeth_ok J ea c hm l (PySem.W.callWith_K0 (first := [.ref a]) J.kIn hm.kp (run_fnS (E := WE W) (us := [.ref a]) (vs := [.ref a]) F hr hb (passAt tk σ) J (.cons rfl .nil) q))
end
structure CalM (P : Program) (w : World) (K : PySem.W.Frag) (mg : Str → Option Value) (base : Heap) (C : Addr) (m : Str) (k : Nat) (ps : List Str) (sp : Sp) : Prop where
  ex : ∃ (f : Addr) (fd : FuncData), FnOk P w K mg base (L2.CX P w) k f fd ps sp ∧ Meth K C m f ∧ Binds K fd ps []
structure CalI (P : Program) (w : World) (K : PySem.W.Frag) (mg : Str → Option Value) (base : Heap) (C : Addr) (k : Nat) (ps : List Str) (sp : Sp) : Prop where
  ex : ∃ (f : Addr) (fd : FuncData), FnOk P w K mg base (L2.CX P w) k f fd ps sp ∧ Mk K C f ∧ Binds K fd ps []
structure CalE (P : Program) (w : World) (K : PySem.W.Frag) (mg : Str → Option Value) (base : Heap) (x : Str) (k : Nat) (ps : List Str) (sp : Addr × Obj → Sp) : Prop where
  ex : ∃ (f : Addr) (fd : FuncData), FnE P w K mg base k f fd ps sp ∧ mg x = some (.ref f) ∧ PySem.W.keepIn K (.ref f) = true ∧ Binds K fd ps []
section
variable {X : Cx} {W : WX} {k j : Nat} {C : Addr} {ps : List Str} {sp : Sp} {x m : Str} {p pos apos : Pos} {e o : Expr} {es : List Expr} {ta : TE} {t : TA}
theorem pe_met (c : Cls X.K C) (G : CalM X.prog X.w X.K X.mg X.base C m j ps sp) (hr : Room k X.A) (hj : j ≤ k) (tk : Takes X W) (he : PE X o ta) (ha : PA X (e :: es) t) {pl : Sem Bool}
    (hst : starEach (e :: es) X.env = (false, eval e X.env) :: starEach es X.env := by rfl) (hpl : (backTo pos (starEach es X.env)).any (·.1) = false := by rfl)
    (ht : eval (.Call (.Attribute o m apos) (e :: es) [] pos) X.env = (do
      let r0 ← eval o X.env
      standAt apos.atName
      let (g, fst) ← holding [r0] (getMethod r0 m pl)
      callWith pos g fst (backTo pos (starEach (e :: es) X.env)) (backToKw pos (keywordEach [] X.env))) := by rfl) :
    PE X (.Call (.Attribute o m apos) (e :: es) [] pos) (tMet C m sp W ta t) := by
  obtain ⟨f, fd, F, hm, hb⟩ := G.ex
  exact pe_metS he c hm F (hr.mono hj) hb tk ha hst hpl ht
theorem pe_met0 (c : Cls X.K C) (G : CalM X.prog X.w X.K X.mg X.base C m j ps sp) (hr : Room k X.A) (hj : j ≤ k) (tk : Takes X W) (he : PE X o ta) {pl : Sem Bool}
    (ht : eval (.Call (.Attribute o m apos) [] [] pos) X.env = (do
      let r0 ← eval o X.env
      standAt apos.atName
      let (g, fst) ← holding [r0] (getMethod r0 m pl)
      callWith pos g fst (backTo pos (starEach [] X.env)) (backToKw pos (keywordEach [] X.env))) := by rfl) :
    PE X (.Call (.Attribute o m apos) [] [] pos) (tMet C m sp W ta tNil) := by
  obtain ⟨f, fd, F, hm, hb⟩ := G.ex
  exact pe_metS0 he c hm F (hr.mono hj) hb tk ht
/-- C(e, ..): what it raises goes on as it is -/
theorem pe_mak {E : XK} (G : CalI X.prog X.w X.K X.mg X.base C j ps sp) (hr : Room k X.A) (hj : j + 1 ≤ k) (hm : X.mg x = some (.ref C)) (tk : Takes X (fun cls d _ H => E cls d H)) (hg : Gl X x) (ha : PA X (e :: es) t)
    (hdb : (x == ("__debug__" : Str)) = false := by decide) (he : starEach (e :: es) X.env = (false, eval e X.env) :: starEach es X.env := by rfl) (hpl : (backTo pos (starEach es X.env)).any (·.1) = false := by rfl) :
    PE X (.Call (.Name x p) (e :: es) [] pos) (tMake C sp [] E t) := by
  obtain ⟨f, fd, F, M, hb⟩ := G.ex
  exact pe_make M F (hr.mono hj) hg hm hb .nil (passes_call tk fun _ _ _ _ h => h) ha hdb he hpl
end
/-! ## which error it is -/
structure Which (K : PySem.W.Frag) (c : ExA) (D : Addr) (b0 b1 b2 b3 b4 : Bool) : Prop where
  e : ExcC K D
  k0 : PySem.W.kitOne K (.ref D) (.ref c.NoPile) = some b0
  k1 : PySem.W.kitOne K (.ref D) (.ref c.NoTurn) = some b1
  k2 : PySem.W.kitOne K (.ref D) (.ref c.TooTall) = some b2
  k3 : PySem.W.kitOne K (.ref D) (.ref c.NoBack) = some b3
  k4 : PySem.W.kitOne K (.ref D) (.ref c.BadLine) = some b4
  kv : PySem.W.kitOne K (.ref D) (.type "ValueError") = some true
  m : PySem.W.exmOne K (.ref D) (.ref c.FlipError) = some true
theorem kit_self {K : PySem.W.Frag} (D : Addr) : PySem.W.kitOne K (.ref D) (.ref D) = some true := by
  unfold PySem.W.kitOne
  rw [if_pos (beq_self_eq_true _)]
theorem kit_ref {K : PySem.W.Frag} {D C : Addr} (hd : PySem.W.hasDictIn K C = true) (ht : PySem.W.typeIn K (.ref C) = some (.type "type")) (hs : PySem.W.subIn K (.ref D) (.ref C) = some false) (hc : PySem.W.subIn K (.ref C) (.ref C) = some true) : PySem.W.kitOne K (.ref D) (.ref C) = some false := by
  have ne : ¬ ((Value.ref D == Value.ref C) = true) := fun e => by
    have := Value.ref.inj (beq_iff_eq.mp e)
    subst this
    rw [hs] at hc
    cases hc
  obtain ⟨cd, hcl, _⟩ := PySem.W.any_some hd
  have e2 : ((PySem.W.clsIn K C).isSome && PySem.W.typeIn K (.ref C) == some (.type "type")) = true := by rw [hcl, ht] <;> rfl
  unfold PySem.W.kitOne PySem.W.kitCls
  rw [if_neg ne]
  show (if ((PySem.W.clsIn K C).isSome && PySem.W.typeIn K (.ref C) == some (.type "type")) = true then _ else _) = _
  rw [if_pos e2]
  exact hs
theorem kit_val {K : PySem.W.Frag} {D : Addr} (hm : PySem.W.kitMeta "ValueError" = true) (hs : PySem.W.subIn K (.ref D) (.type "ValueError") = some true) : PySem.W.kitOne K (.ref D) (.type "ValueError") = some true := by
  have ne : ¬ ((Value.ref D == Value.type "ValueError") = true) := fun e => by
    have := beq_iff_eq.mp e
    cases this
  unfold PySem.W.kitOne PySem.W.kitCls
  rw [if_neg ne]
  show (if PySem.W.kitMeta "ValueError" = true then _ else _) = _
  rw [if_pos hm]
  exact hs
def bls (b0 b1 b2 b3 b4 : Bool) : List V := [.bl b0, .bl b1, .bl b2, .bl b3, .bl b4, .bl true]
def sp_which (K : PySem.W.Frag) (c : ExA) : Addr × Obj → Sp := fun z vs H Q _ => ∃ (D : Addr) (b0 b1 b2 b3 b4 : Bool), vs = [.ref z.1] ∧ Zc (.ref D) none z.2 ∧ (∃ us, z.2.data = .fields us) ∧ Which K c D b0 b1 b2 b3 b4 ∧
  ∀ (q : Addr) (H' : Hp), Same H H' → H q = none → H' q = some (.lst (bls b0 b1 b2 b3 b4)) → Q (.ref q) H'
/-- told = _law_which(e) within the suite -/
def tWhich (K : PySem.W.Frag) (c : ExA) (i : Nat) (a : Addr) (cls : Value) (d : Option Addr) : TE := fun σ H Q => σ[i]? = some (some (.ref a)) ∧ d = none ∧ ∃ (D : Addr) (b0 b1 b2 b3 b4 : Bool), cls = .ref D ∧ Which K c D b0 b1 b2 b3 b4 ∧
  ∀ (q : Addr) (H' : Hp), Same H H' → H q = none → H' q = some (.lst (bls b0 b1 b2 b3 b4)) → Q (.ref q) H'
theorem PE.imp {X : Cx} {e : Expr} {t t' : TE} (h : PE X e t) (i : ∀ σ H Q, t' σ H Q → t σ H Q) : PE X e t' := ⟨fun pins s σ H Q I q => h.run pins s σ H Q I (i σ H Q q)⟩
theorem pe_which {X : Cx} {k j : Nat} {c : ExA} {a : Addr} {oe : Obj} {cls : Value} {d : Option Addr} {pn : List (Addr × Obj)} {i : Nat} {ps : List Str} {pos p q : Pos} {n : Str} (G : CalE X.prog X.w X.K X.mg X.base "_law_which" j ps (sp_which X.K c)) (hr : Room k X.A) (hj : j ≤ k)
    (hz : Zc cls d oe) (hf : ∃ us, oe.data = .fields us) (hg : Gl X "_law_which") (hv : PE (X.suite a ((a, oe) :: pn)) (.Name n q) (tVar i))
    (he : starEach [.Name n q] X.env = (false, eval (.Name n q) X.env) :: starEach [] X.env := by rfl) :
    PE (X.suite a ((a, oe) :: pn)) (.Call (.Name "_law_which" p) [.Name n q] [] pos) (tWhich X.K c i a cls d) := by
  obtain ⟨f, fd, F, hm, hk, hb⟩ := G.ex
  have r := hr.mono hj
  refine PE.imp (pe_callE (X := X.suite a ((a, oe) :: pn)) (z := (a, oe)) F ⟨r.dp, r.un⟩ List.mem_cons_self hg hm hk hb (pa_cons hv pa_nil)) ?_
  rintro σ H Q ⟨h1, rfl, D, b0, b1, b2, b3, b4, rfl, w, q⟩
  exact ⟨_, h1, D, b0, b1, b2, b3, b4, rfl, hz, hf, w, q⟩
end FL
namespace FL
open PySem PySem.Spec PyProof.Rows L2
/-! ## a stack's own fields -/
theorem ne_cd : ¬ (("cakes" : Str) = "done") := by decide +kernel
theorem ne_dc : ¬ (("done" : Str) = "cakes") := by decide +kernel
def sf (l d : Addr) : List (Str × V) := putF "done" (.ref d) (putF "cakes" (.ref l) [])
theorem sf_eq (l d : Addr) : sf l d = ([("cakes", V.ref l), ("done", V.ref d)] : List (Str × V)) := by
  show (if ("cakes" : Str) = "done" then [(("cakes" : Str), V.ref d)] else (("cakes" : Str), V.ref l) :: putF "done" (V.ref d) []) = ([("cakes", V.ref l), ("done", V.ref d)] : List (Str × V))
  rw [if_neg ne_cd] <;> rfl
theorem sf_done (l d : Addr) : (sf l d).lookup ("done" : Str) = some (.ref d) := by
  unfold sf
  rw [lookup_putF, if_pos rfl]
theorem sf_cakes (l d : Addr) : (sf l d).lookup ("cakes" : Str) = some (.ref l) := by
  unfold sf
  rw [lookup_putF, if_neg ne_cd, lookup_putF, if_pos rfl]
theorem sf_no (l d : Addr) {m : Str} (h1 : ¬ m = "done") (h2 : ¬ m = "cakes") : (sf l d).lookup m = none := by
  unfold sf
  rw [lookup_putF, if_neg h1, lookup_putF, if_neg h2] <;> rfl
theorem sf_put (l m d : Addr) : putF "cakes" (.ref m) (sf l d) = sf m d := by
  rw [sf_eq, sf_eq]
  show (if ("cakes" : Str) = "cakes" then (("cakes" : Str), V.ref m) :: [(("done" : Str), V.ref d)] else _) = ([("cakes", V.ref m), ("done", V.ref d)] : List (Str × V))
  rw [if_pos rfl]
theorem sf_short (l d : Addr) : (sf l d).length < 1000 := by
  rw [sf_eq]
  show 2 < 1000
  decide
/-- all stays but what stands at x -/
def But1 (x : Addr) (H H' : Hp) : Prop := ∀ b o, b ≠ x → H b = some o → H' b = some o
def But2 (x d : Addr) (H H' : Hp) : Prop := ∀ b o, b ≠ x → b ≠ d → H b = some o → H' b = some o
theorem ne_ins {H : Hp} {x l C dx : Addr} {fs : List (Str × V)} {xs : List V} (h1 : H x = some (.ins C dx fs)) (h2 : H l = some (.lst xs)) : l ≠ x := fun e => by
  rw [e, h1] at h2
  cases h2
/-- a stack at x, its turns at d; kept[0] (the list at kp) and done (at dn) tell the same -/
def StAt (C x dx d kp dn : Addr) (ns ts : List Int) (H : Hp) : Prop := ∃ l k0 : Addr, H x = some (.ins C dx (sf l d)) ∧ H l = some (.lst (ns.map V.int)) ∧ H d = some (.lst (ts.map V.int)) ∧ H kp = some (.lst [V.ref k0]) ∧ H k0 = some (.lst (ns.map V.int)) ∧ H dn = some (.lst (ts.map V.int)) ∧
  l ≠ d ∧ l ≠ kp ∧ l ≠ dn ∧ k0 ≠ d ∧ k0 ≠ kp ∧ k0 ≠ dn
def But4 (x d kp dn : Addr) (H H' : Hp) : Prop := ∀ b o, b ≠ x → b ≠ d → b ≠ kp → b ≠ dn → H b = some o → H' b = some o
theorem But4.of {x d kp dn : Addr} {H H' : Hp} (s : Same H H') : But4 x d kp dn H H' := fun b o _ _ _ _ e => s b o e
theorem But4.trans {x d kp dn : Addr} {H H' H'' : Hp} (s : But4 x d kp dn H H') (t : But4 x d kp dn H' H'') : But4 x d kp dn H H'' := fun b o h1 h2 h3 h4 e => t b o h1 h2 h3 h4 (s b o h1 h2 h3 h4 e)
theorem StAt.same {C x dx d kp dn : Addr} {ns ts : List Int} {H H' : Hp} (h : StAt C x dx d kp dn ns ts H) (s : Same H H') : StAt C x dx d kp dn ns ts H' := by
  obtain ⟨l, k0, h1, h2, h3, h4, h5, h6, h7⟩ := h
  exact ⟨l, k0, s _ _ h1, s _ _ h2, s _ _ h3, s _ _ h4, s _ _ h5, s _ _ h6, h7⟩
theorem ok_not (n : Nat) {t : Int} (h : t < 1 ∨ (n : Int) < t) : ¬ (1 ≤ t ∧ t ≤ (n : Int)) := fun x => by omega
theorem turn_ok (x : Int) {n : Nat} (h : 1 ≤ n) : 1 ≤ 1 + x % (n : Int) ∧ 1 + x % (n : Int) ≤ n := by
  have h1 := Int.emod_nonneg x (show ((n : Nat) : Int) ≠ 0 by omega)
  have h2 := Int.emod_lt_of_pos x (show (0 : Int) < ((n : Nat) : Int) by omega)
  omega
end FL
namespace FL
open PySem PySem.Spec PyProof.Rows L2 TL NumText
/-! ## numbers as texts -/
def istr (i : Int) : Str := toString i
def dgs (n : Nat) : Bool := (istr (n : Int)).cps.toList.all (fun c => decide (48 ≤ c) && decide (c ≤ 57)) && decide (1 ≤ (istr (n : Int)).length) && decide ((istr (n : Int)).length ≤ 2) && decide (PySem.intText? (istr (n : Int)) = some (n : Int)) &&
  decide ((istr (-(n : Int))).length ≤ 3) && decide ((istr (-(n : Int))).cps.toList = (if n = 0 then (istr (n : Int)).cps.toList else 45 :: (istr (n : Int)).cps.toList)) && (decide (n = 0) || decide ((istr (n : Int)).cps.toList.head? ≠ some 48))
theorem dgs_all : ∀ n : Nat, n < 13 → dgs n = true := by decide +kernel
structure Dgs (n : Nat) : Prop where
  fig : ∀ c ∈ tl (istr (n : Int)), 48 ≤ c ∧ c ≤ 57
  l1 : 1 ≤ (istr (n : Int)).length
  l2 : (istr (n : Int)).length ≤ 2
  val : PySem.intText? (istr (n : Int)) = some (n : Int)
  l3 : (istr (-(n : Int))).length ≤ 3
  neg : tl (istr (-(n : Int))) = (if n = 0 then tl (istr (n : Int)) else 45 :: tl (istr (n : Int)))
  hd : n = 0 ∨ (tl (istr (n : Int))).head? ≠ some 48
theorem dgs_of {n : Nat} (h : n < 13) : Dgs n := by
  have e := dgs_all n h
  unfold dgs at e
  simp only [Bool.and_eq_true, Bool.or_eq_true, decide_eq_true_eq, List.all_eq_true] at e
  obtain ⟨⟨⟨⟨⟨⟨h1, h2⟩, h3⟩, h4⟩, h5⟩, h6⟩, h7⟩ := e
  exact ⟨h1, h2, h3, h4, h5, h6, h7⟩
theorem istr_len {i : Int} (h : -12 ≤ i ∧ i ≤ 12) : (istr i).length ≤ 3 := by
  rcases Int.le_total 0 i with c | c
  · have := (dgs_of (n := i.toNat) (by omega)).l2
    rw [Int.toNat_of_nonneg c] at this
    omega
  · have := (dgs_of (n := (-i).toNat) (by omega)).l3
    rw [Int.toNat_of_nonneg (by omega), Int.neg_neg] at this
    exact this
/-- a number's text: its sign, then its figures -/
theorem istr_sign {i : Int} (h : -12 ≤ i ∧ i ≤ 12) : tl (istr i) = (if i < 0 then [45] else []) ++ tl (istr (iabs i)) := by
  by_cases c : i < 0
  · have d := dgs_of (n := (-i).toNat) (by omega)
    have e := d.neg
    rw [Int.toNat_of_nonneg (by omega), Int.neg_neg, if_neg (by omega)] at e
    rw [if_pos c, e, show iabs i = -i by unfold iabs; rw [if_pos c]]
    rfl
  · rw [if_neg c, iabs_pos (by omega)]
    rfl
theorem istr_figs {i : Int} (h : -12 ≤ i ∧ i ≤ 12) : ∀ c ∈ tl (istr i), c = 45 ∨ (48 ≤ c ∧ c ≤ 57) := fun c hc => by
  rw [istr_sign h] at hc
  have hn := iabs_nn i
  have h12 : iabs i ≤ 12 := by
    have := iabs_cases i
    unfold iabs
    split <;> omega
  have d := dgs_of (n := (iabs i).toNat) (by omega)
  rw [List.mem_append] at hc
  rcases hc with m | m
  · split at m
    · exact .inl (List.mem_singleton.mp m)
    · cases m
  · have := d.fig c (by rw [Int.toNat_of_nonneg hn]; exact m)
    exact .inr this
def Small (ns : List Int) : Prop := ∀ x ∈ ns, -12 ≤ x ∧ x ≤ 12
def ptext (ns : List Int) : Str := Txt.join " " (ns.map istr)
theorem tl_blank : tl (" " : Str) = [32] := by decide +kernel
theorem ptext_split {ns : List Int} (h : Small ns) (hne : ns ≠ []) : Txt.split (ptext ns) " " = ns.map istr := by
  refine split_join (s := 32) (S := []) tl_blank (by decide +kernel) (fun e => hne (List.map_eq_nil_iff.mp e)) fun p hp => ?_
  obtain ⟨x, hx, rfl⟩ := List.mem_map.mp hp
  intro hm
  have := istr_figs (h x hx) 32 hm
  omega
theorem joinL_drop : ∀ ws : List (List Nat), joinL [32] ws = (ws.flatMap fun w => 32 :: w).drop 1
  | [] => rfl
  | [p] => by
    show p = ((32 :: p) ++ []).drop 1
    rw [List.append_nil]
    rfl
  | p :: q :: r => by
    show p ++ ([32] ++ joinL [32] (q :: r)) = ((32 :: p) ++ List.flatMap (fun w => 32 :: w) (q :: r)).drop 1
    rw [joinL_drop (q :: r)]
    show p ++ ([32] ++ List.drop 1 ((32 :: q) ++ List.flatMap (fun w => 32 :: w) r)) = p ++ ((32 :: q) ++ List.flatMap (fun w => 32 :: w) r)
    rfl
theorem tl_ptext (ns : List Int) : tl (ptext ns) = (ns.flatMap fun x => 32 :: tl (istr x)).drop 1 := by
  unfold ptext
  rw [join_eq, tl_join, tl_blank, joinL_drop, List.map_map, List.flatMap_map] <;> rfl
theorem cutS_one (z : Str) : tl (cutS z (some 1) none) = (tl z).drop 1 := by
  unfold cutS
  show (List.take (HT.sIx z.length z.length none - HT.sIx z.length 0 (some 1)) (List.drop (HT.sIx z.length 0 (some 1)) z.cps.toList)) = _
  have e1 : HT.sIx z.length 0 (some (1 : Int)) = Nat.min 1 z.length := HT.sIx_nat _ _ 1
  rw [HT.sIx_none, e1]
  have hl : z.cps.toList.length = z.length := Array.length_toList
  by_cases h : 1 ≤ z.length
  · rw [show Nat.min 1 z.length = 1 from Nat.min_eq_left h, List.take_of_length_le (by rw [List.length_drop]; omega)] <;> rfl
  · have h0 : z.length = 0 := by omega
    have hz : z.cps.toList = [] := List.length_eq_zero_iff.mp (by omega)
    show List.take _ (List.drop _ z.cps.toList) = List.drop 1 z.cps.toList
    rw [hz]
    simp
theorem tl_inj {x y : Str} (h : tl x = tl y) : x = y := by
  have := map_tl_inj (l := [x]) (m := [y]) (by rw [List.map_singleton, List.map_singleton, h])
  exact (List.cons.inj this).1
theorem its (x : Str) {H1 : Hp} : ItIs (Its x) x.length (fun i => V.str ⟨#[(tl x).getD i 0]⟩) H1 where
  go := fun i H _ h => h
  stop := fun i H _ h => h
  yld := fun i H v H' _ h y => by
    obtain ⟨e, c, hc, rfl⟩ := y
    refine ⟨e, ?_⟩
    have e2 : (tl x)[i]? = some c := by
      show x.cps.toList[i]? = some c
      rw [Array.getElem?_toList]
      exact hc
    rw [List.getD_eq_getElem?_getD, e2]
    rfl
/-- a word that writes a cake -/
def OkW (w : Str) : Prop := 1 ≤ w.length ∧ w.length ≤ 2 ∧ (tl w).head? ≠ some 48 ∧ ∀ c ∈ tl w, 48 ≤ c ∧ c ≤ 57
def wval (w : Str) : Int := ((digitsVal (tl w) : Nat) : Int)
theorem wval_ok {w : Str} (h : OkW w) : PySem.intText? w = some (wval w) := by
  refine intText_digits h.2.2.2 (fun e => ?_) (by have := h.2.1; omega)
  have : w.length = 0 := by
    show w.cps.size = 0
    rw [← Array.length_toList]
    exact List.length_eq_zero_iff.mpr e
  have := h.1
  omega
theorem okW_istr {i : Int} (h1 : 1 ≤ i) (h2 : i ≤ 12) : OkW (istr i) ∧ wval (istr i) = i := by
  obtain ⟨n, rfl⟩ : ∃ n : Nat, i = (n : Int) := ⟨i.toNat, by omega⟩
  have d := dgs_of (n := n) (by omega)
  have ok : OkW (istr (n : Int)) := ⟨d.l1, d.l2, by
    rcases d.hd with h | h
    · omega
    · exact h, d.fig⟩
  refine ⟨ok, ?_⟩
  have := wval_ok ok
  rw [d.val] at this
  exact (Option.some.inj this).symm
def isNeg (w : Str) : Prop := (tl w).head? = some 45
instance (w : Str) : Decidable (isNeg w) := inferInstanceAs (Decidable ((tl w).head? = some 45))
def tailW (w : Str) : Str := cutS w (some 1) none
def OkB (w : Str) : Prop := if isNeg w then OkW (tailW w) else OkW w
def bval (w : Str) : Int := if isNeg w then -wval (tailW w) else wval w
theorem cutS_head (z : Str) : tl (cutS z none (some 1)) = (tl z).take 1 := by
  unfold cutS
  show (List.take (HT.sIx z.length z.length (some 1) - HT.sIx z.length 0 none) (List.drop (HT.sIx z.length 0 none) z.cps.toList)) = _
  have e1 : HT.sIx z.length z.length (some (1 : Int)) = Nat.min 1 z.length := HT.sIx_nat _ _ 1
  rw [HT.sIx_none, e1, List.drop_zero, Nat.sub_zero]
  have hl : z.cps.toList.length = z.length := Array.length_toList
  by_cases h : 1 ≤ z.length
  · rw [show Nat.min 1 z.length = 1 from Nat.min_eq_left h]
  · have h0 : z.length = 0 := by omega
    have hz : z.cps.toList = [] := List.length_eq_zero_iff.mp (by omega)
    show List.take _ z.cps.toList = List.take 1 z.cps.toList
    rw [hz]
    simp
theorem neg_head (w : Str) : cutS w none (some 1) = "-" ↔ isNeg w := by
  have td : tl ("-" : Str) = [45] := by decide +kernel
  constructor
  · intro e
    have := congrArg tl e
    rw [cutS_head, td] at this
    unfold isNeg
    cases h : tl w with
    | nil =>
      rw [h] at this
      cases this
    | cons x r =>
      rw [h] at this
      have e2 : x = 45 := (List.cons.inj this).1
      rw [e2]
      rfl
  · intro h
    refine tl_inj ?_
    rw [cutS_head, td]
    unfold isNeg at h
    cases e : tl w with
    | nil =>
      rw [e] at h
      cases h
    | cons x r =>
      rw [e] at h
      have e2 : x = 45 := Option.some.inj h
      rw [e2]
      rfl
theorem tailW_len (w : Str) : (tailW w).length ≤ w.length := by
  have h1 : (tl (tailW w)).length = (tailW w).length := Array.length_toList
  have h2 : (tl w).length = w.length := Array.length_toList
  have h3 := congrArg List.length (cutS_one w)
  rw [List.length_drop] at h3
  have h4 : (tl (tailW w)).length = (tl (cutS w (some 1) none)).length := rfl
  omega
theorem okB_istr {i : Int} (h : -12 ≤ i ∧ i ≤ 12) (h0 : i ≠ 0) : OkB (istr i) ∧ bval (istr i) = i := by
  have hs := istr_sign h
  have hn := iabs_nn i
  have ha := okW_istr (i := iabs i) (by have := iabs_cases i; omega) (by have := iabs_cases i; unfold iabs; split <;> omega)
  by_cases c : i < 0
  · rw [if_pos c] at hs
    have hneg : isNeg (istr i) := by
      unfold isNeg
      rw [hs]
      rfl
    have ht : tailW (istr i) = istr (iabs i) := tl_inj (by
      unfold tailW
      rw [cutS_one, hs]
      rfl)
    unfold OkB bval
    rw [if_pos hneg, if_pos hneg, ht]
    refine ⟨ha.1, ?_⟩
    rw [ha.2]
    have := iabs_cases i
    unfold iabs
    rw [if_pos c]
    omega
  · rw [if_neg c] at hs
    have e : iabs i = i := iabs_pos (by omega)
    rw [e] at ha
    have hneg : ¬ isNeg (istr i) := by
      intro hh
      unfold isNeg at hh
      have hf := ha.1.2.2.2
      cases e2 : tl (istr i) with
      | nil =>
        rw [e2] at hh
        cases hh
      | cons x r =>
        rw [e2] at hh hf
        have := hf x List.mem_cons_self
        have e3 : x = 45 := Option.some.inj hh
        omega
    unfold OkB bval
    rw [if_neg hneg, if_neg hneg]
    exact ha
theorem flat_len : ∀ ns : List Int, Small ns → (ns.flatMap fun x => 32 :: tl (istr x)).length ≤ 4 * ns.length
  | [], _ => Nat.le_refl _
  | x :: ns, h => by
    have h1 := istr_len (h x List.mem_cons_self)
    have h2 := flat_len ns fun y hy => h y (List.mem_cons_of_mem _ hy)
    have h3 : (tl (istr x)).length = (istr x).length := Array.length_toList
    rw [List.flatMap_cons, List.length_append, List.length_cons, List.length_cons]
    omega
theorem ptext_len {ns : List Int} (h : Small ns) : (ptext ns).length ≤ 4 * ns.length := by
  have h1 := flat_len ns h
  have h2 := congrArg List.length (tl_ptext ns)
  have h3 : (tl (ptext ns)).length = (ptext ns).length := Array.length_toList
  rw [List.length_drop] at h2
  omega
theorem pile_small {ns : List Int} (h : IsPile ns) : Small ns := fun x hx => by
  have := h.mem.mp hx
  have := h.2.1
  omega
theorem burnt_small {ns : List Int} (h : IsBurnt ns) : Small ns := fun x hx => burnt_mem h hx
theorem burnt_nz {ns : List Int} (h : IsBurnt ns) {x : Int} (hx : x ∈ ns) : x ≠ 0 := fun e => by
  have := (IsPile.mem h).mp (List.mem_map_of_mem (f := iabs) hx)
  rw [e] at this
  have : (1 : Int) ≤ iabs 0 := this.1
  exact absurd this (by decide)
end FL
namespace FL
open PySem PySem.Spec PyProof.Rows L2
/-! ## all piles of a height -/
def Val (b : Bool) (n : Nat) (p : List Int) : Prop := IsP b p ∧ p.length = n
theorem Val.flip {b : Bool} {n : Nat} {p : List Int} (h : Val b n p) (k : Nat) : Val b n (tflip b p k) := ⟨h.1.flip k, by rw [tflip_length, h.2]⟩
theorem nodup_le : ∀ {l m : List (List Int)}, l.Nodup → (∀ x ∈ l, x ∈ m) → l.length ≤ m.length
  | [], _, _, _ => Nat.zero_le _
  | x :: l, m, nd, h => by
    have h1 := List.nodup_cons.mp nd
    have hx := h x List.mem_cons_self
    have ih := nodup_le (m := m.erase x) h1.2 fun y hy => (List.mem_erase_of_ne (fun e => h1.1 (by rw [← e]; exact hy))).mpr (h y (List.mem_cons_of_mem _ hy))
    have hl := List.length_erase_of_mem hx
    have hp := List.length_pos_of_mem hx
    rw [List.length_cons]
    omega
def insAll (x : Int) : List Int → List (List Int)
  | [] => [[x]]
  | y :: ys => (x :: y :: ys) :: (insAll x ys).map (y :: ·)
theorem mem_insAll (x : Int) (r : List Int) : ∀ l : List Int, l ++ x :: r ∈ insAll x (l ++ r)
  | [] => by
    cases r with
    | nil => exact List.mem_singleton_self _
    | cons y ys => exact List.mem_cons_self
  | y :: l => List.mem_cons_of_mem _ (List.mem_map_of_mem (mem_insAll x r l))
def permsOf : List Int → List (List Int)
  | [] => [[]]
  | x :: xs => (permsOf xs).flatMap (insAll x)
theorem mem_permsOf : ∀ {xs p : List Int}, p.Perm xs → p ∈ permsOf xs
  | [], p, h => by
    rw [h.eq_nil]
    exact List.mem_singleton_self _
  | x :: xs, p, h => by
    have hx : x ∈ p := h.mem_iff.mpr List.mem_cons_self
    obtain ⟨l, r, rfl⟩ := List.append_of_mem hx
    have h2 : (l ++ r).Perm xs := List.Perm.cons_inv (List.perm_middle.symm.trans h)
    exact List.mem_flatMap.mpr ⟨l ++ r, mem_permsOf h2, mem_insAll x r l⟩
def signsOf : List Int → List (List Int)
  | [] => [[]]
  | x :: xs => (signsOf xs).flatMap fun ys => [x :: ys, (-x) :: ys]
theorem mem_signsOf : ∀ {xs p : List Int}, p.map iabs = xs → p ∈ signsOf xs
  | [], p, h => by
    rw [List.map_eq_nil_iff.mp h]
    exact List.mem_singleton_self _
  | x :: xs, [], h => by cases h
  | x :: xs, y :: ys, h => by
    obtain ⟨h1, h2⟩ := List.cons.inj h
    refine List.mem_flatMap.mpr ⟨ys, mem_signsOf h2, ?_⟩
    rcases iabs_cases y with e | e
    · rw [e, h1]
      exact List.mem_cons_self
    · rw [e, h1]
      exact List.mem_cons_of_mem _ List.mem_cons_self
def allP (b : Bool) (n : Nat) : List (List Int) := if b = true then (permsOf (upto n)).flatMap signsOf else permsOf (upto n)
theorem mem_allP {b : Bool} {n : Nat} {p : List Int} (h : Val b n p) : p ∈ allP b n := by
  obtain ⟨h1, h2⟩ := h
  unfold allP
  cases b with
  | false =>
    rw [if_neg Bool.false_ne_true]
    have := h1.2.2
    rw [h2] at this
    exact mem_permsOf this
  | true =>
    rw [if_pos rfl]
    have h3 : IsPile (p.map iabs) := h1
    have := h3.2.2
    rw [List.length_map, h2] at this
    exact List.mem_flatMap.mpr ⟨p.map iabs, mem_permsOf this, mem_signsOf rfl⟩
theorem allP_len (b : Bool) {n : Nat} (h : n ≤ if b = true then 4 else 6) : (allP b n).length ≤ 720 := by
  cases b with
  | false =>
    have h : n ≤ 6 := h
    have : ∀ m : Nat, m < 7 → (allP false m).length ≤ 720 := by decide +kernel
    exact this n (by omega)
  | true =>
    have h : n ≤ 4 := h
    have : ∀ m : Nat, m < 5 → (allP true m).length ≤ 720 := by decide +kernel
    exact this n (by omega)
/-! ## the walk from the pile in order over all of them -/
theorem upto_isPv (b : Bool) {n : Nat} (h : 1 ≤ n) (h2 : n ≤ 12) : Val b n (upto n) := by
  have hp : IsPile (upto n) := ⟨by rw [upto_length]; exact h, by rw [upto_length]; exact h2, by rw [upto_length]⟩
  refine ⟨?_, upto_length n⟩
  cases b with
  | false => exact hp
  | true =>
    show IsPile ((upto n).map iabs)
    rw [hp.abs]
    exact hp
/-- the first i of the row done; of the i-th, t turns -/
structure Bfs (b : Bool) (n : Nat) (row : List (List Int)) (i t : Nat) : Prop where
  nd : row.Nodup
  val : ∀ p ∈ row, Val b n p
  h0 : upto n ∈ row
  mono : ∀ j k, j ≤ k → k < row.length → dist b (row.getD j []) ≤ dist b (row.getD k [])
  nbr : ∀ j, j < i → j < row.length → ∀ u, 1 ≤ u → u ≤ n → tflip b (row.getD j []) u ∈ row
  nbr1 : i < row.length → ∀ u, 1 ≤ u → u ≤ t → tflip b (row.getD i []) u ∈ row
  low : i < row.length → ∀ p ∈ row, dist b p ≤ dist b (row.getD i []) + 1
theorem getDl_mem {row : List (List Int)} {j : Nat} (h : j < row.length) : row.getD j [] ∈ row := by
  rw [List.getD_eq_getElem?_getD, List.getElem?_eq_getElem h]
  exact List.getElem_mem h
theorem mem_getDl {row : List (List Int)} {p : List Int} (h : p ∈ row) : ∃ j, j < row.length ∧ row.getD j [] = p := by
  obtain ⟨j, hj, e⟩ := List.getElem_of_mem h
  refine ⟨j, hj, ?_⟩
  rw [List.getD_eq_getElem?_getD, List.getElem?_eq_getElem hj]
  exact e
theorem getDl_app {row : List (List Int)} {q : List Int} {j : Nat} (h : j < row.length) : (row ++ [q]).getD j [] = row.getD j [] := by
  rw [List.getD_eq_getElem?_getD, List.getD_eq_getElem?_getD, List.getElem?_append_left h]
theorem getDl_last {row : List (List Int)} {q : List Int} : (row ++ [q]).getD row.length [] = q := by
  rw [List.getD_eq_getElem?_getD, List.getElem?_append_right (Nat.le_refl _), Nat.sub_self]
  rfl
theorem Bfs.start (b : Bool) {n : Nat} (h : 1 ≤ n) (h2 : n ≤ 12) : Bfs b n [upto n] 0 0 where
  nd := by simp
  val := fun p hp => by
    rw [List.mem_singleton.mp hp]
    exact upto_isPv b h h2
  h0 := List.mem_singleton_self _
  mono := fun j k h1 h2 => by
    have : k < 1 := h2
    have e1 : k = 0 := by omega
    have e2 : j = 0 := by omega
    rw [e1, e2]
    exact Nat.le_refl _
  nbr := fun j h => absurd h (Nat.not_lt_zero _)
  nbr1 := fun _ u h1 h2 => by omega
  low := fun _ p hp => by
    rw [List.mem_singleton.mp hp]
    exact Nat.le_succ _
/-- all that is as near as the i-th stands in the row -/
theorem Bfs.level {b : Bool} {n : Nat} {row : List (List Int)} {i t : Nat} (h : Bfs b n row i t) : ∀ (m : Nat) {q : List Int}, Val b n q → dist b q = m → (∀ r, r ∈ row → dist b r < m → ∃ j, j < i ∧ j < row.length ∧ row.getD j [] = r) → q ∈ row ∨ ∃ r, Val b n r ∧ dist b r < m ∧ r ∉ row
  | 0, q, hq, hd, _ => by
    have := (dist_zero hq.1).mp hd
    rw [hq.2] at this
    rw [this]
    exact .inl h.h0
  | m + 1, q, hq, hd, hr => by
    obtain ⟨u, h1, h2, h3⟩ := dist_step hq.1 hd
    by_cases hm : tflip b q u ∈ row
    · obtain ⟨j, hj, hj2, ej⟩ := hr _ hm (by omega)
      have := h.nbr j hj hj2 u h1 (by rw [← hq.2]; exact h2)
      rw [ej, tflip_tflip b h2] at this
      exact .inl this
    · exact .inr ⟨_, hq.flip u, by omega, hm⟩
theorem Bfs.near {b : Bool} {n : Nat} {row : List (List Int)} {i t : Nat} (h : Bfs b n row i t) (hi : i < row.length) : ∀ (m : Nat), m ≤ dist b (row.getD i []) → ∀ {q : List Int}, Val b n q → dist b q = m → q ∈ row := by
  intro m
  induction m using Nat.strongRecOn with
  | _ m ih =>
    intro hm q hq hd
    rcases h.level m hq hd (fun r hr hlt => by
      obtain ⟨j, hj, e⟩ := mem_getDl hr
      refine ⟨j, Nat.lt_of_not_le fun hle => ?_, hj, e⟩
      have := h.mono i j hle hj
      rw [e] at this
      omega) with h1 | ⟨r, hr, hlt, hn⟩
    · exact h1
    · exact absurd (ih _ hlt (by omega) hr rfl) hn
theorem Bfs.done {b : Bool} {n : Nat} {row : List (List Int)} {i t : Nat} (h : Bfs b n row i t) (hi : row.length ≤ i) : ∀ (m : Nat) {q : List Int}, Val b n q → dist b q = m → q ∈ row := by
  intro m
  induction m using Nat.strongRecOn with
  | _ m ih =>
    intro q hq hd
    rcases h.level m hq hd (fun r hr hlt => by
      obtain ⟨j, hj, e⟩ := mem_getDl hr
      exact ⟨j, by omega, hj, e⟩) with h1 | ⟨r, hr, hlt, hn⟩
    · exact h1
    · exact absurd (ih _ hlt hr rfl) hn
theorem Bfs.old {b : Bool} {n : Nat} {row : List (List Int)} {i t : Nat} (h : Bfs b n row i t) (hi : i < row.length) (hm : tflip b (row.getD i []) (t + 1) ∈ row) : Bfs b n row i (t + 1) where
  nd := h.nd
  val := h.val
  h0 := h.h0
  mono := h.mono
  nbr := h.nbr
  nbr1 := fun hi u h1 h2 => by
    by_cases e : u = t + 1
    · rw [e]
      exact hm
    · exact h.nbr1 hi u h1 (by omega)
  low := h.low
theorem Bfs.dist_new {b : Bool} {n : Nat} {row : List (List Int)} {i t : Nat} (h : Bfs b n row i t) (hi : i < row.length) (ht : t + 1 ≤ n) (hm : tflip b (row.getD i []) (t + 1) ∉ row) : dist b (tflip b (row.getD i []) (t + 1)) = dist b (row.getD i []) + 1 := by
  have hv := h.val _ (getDl_mem hi)
  have h1 := dist_up hv.1 (t := t + 1) (by omega) (by rw [hv.2]; exact ht)
  have h2 : ¬ dist b (tflip b (row.getD i []) (t + 1)) ≤ dist b (row.getD i []) := fun hle => hm (h.near hi _ hle (hv.flip _) rfl)
  omega
theorem Bfs.new {b : Bool} {n : Nat} {row : List (List Int)} {i t : Nat} (h : Bfs b n row i t) (hi : i < row.length) (ht : t + 1 ≤ n) (hm : tflip b (row.getD i []) (t + 1) ∉ row) : Bfs b n (row ++ [tflip b (row.getD i []) (t + 1)]) i (t + 1) where
  nd := by
    rw [List.nodup_append]
    refine ⟨h.nd, by simp, fun x hx y hy e => ?_⟩
    rw [List.mem_singleton.mp hy] at e
    exact hm (by rw [← e]; exact hx)
  val := fun p hp => by
    rcases List.mem_append.mp hp with q | q
    · exact h.val p q
    · rw [List.mem_singleton.mp q]
      exact (h.val _ (getDl_mem hi)).flip _
  h0 := List.mem_append_left _ h.h0
  mono := fun j k hjk hk => by
    rw [List.length_append] at hk
    have hk : k < row.length + 1 := hk
    by_cases e : k = row.length
    · rw [e, getDl_last, h.dist_new hi ht hm]
      by_cases e2 : j = row.length
      · rw [e2, getDl_last, h.dist_new hi ht hm]
        exact Nat.le_refl _
      · have hj : j < row.length := by omega
        rw [getDl_app hj]
        exact h.low hi _ (getDl_mem hj)
    · rw [getDl_app (show k < row.length by omega), getDl_app (show j < row.length by omega)]
      exact h.mono j k hjk (by omega)
  nbr := fun j hj _ u h1 h2 => by
    have hj2 : j < row.length := by omega
    rw [getDl_app hj2]
    exact List.mem_append_left _ (h.nbr j hj hj2 u h1 h2)
  nbr1 := fun _ u h1 h2 => by
    rw [getDl_app hi]
    by_cases e : u = t + 1
    · rw [e]
      exact List.mem_append_right _ (List.mem_singleton_self _)
    · exact List.mem_append_left _ (h.nbr1 hi u h1 (by omega))
  low := fun _ p hp => by
    rw [getDl_app hi]
    rcases List.mem_append.mp hp with q | q
    · exact h.low hi p q
    · rw [List.mem_singleton.mp q, h.dist_new hi ht hm]
      exact Nat.le_refl _
theorem Bfs.next {b : Bool} {n : Nat} {row : List (List Int)} {i : Nat} (h : Bfs b n row i n) (hi : i < row.length) : Bfs b n row (i + 1) 0 where
  nd := h.nd
  val := h.val
  h0 := h.h0
  mono := h.mono
  nbr := fun j hj hjl u h1 h2 => by
    by_cases e : j = i
    · rw [e]
      exact h.nbr1 hi u h1 h2
    · exact h.nbr j (by omega) hjl u h1 h2
  nbr1 := fun _ u h1 h2 => by omega
  low := fun hi2 p hp => by
    have h1 := h.low hi p hp
    have h2 := h.mono i (i + 1) (Nat.le_succ _) hi2
    omega
theorem Bfs.size {b : Bool} {n : Nat} {row : List (List Int)} {i t : Nat} (h : Bfs b n row i t) : row.length ≤ (allP b n).length := nodup_le h.nd fun p hp => mem_allP (h.val p hp)
end FL
namespace FL
open PySem PySem.Spec PyProof.Rows L2
/-! ## {t: v}, t a tuple -/
def tDisp1T (tk tv : TE) : TE := fun σ H Q => ∀ p, H p = none → tk σ (upd H p (.dT [])) fun x H1 => tv σ H1 fun y H2 => H2 p = some (.dT []) ∧ ∃ (ks : List Key) (b : Addr), x = .ref b ∧ H2 b = some (.tup (ks.map kV)) ∧ Q (.ref p) (upd H2 p (.dT [(ks, y)]))
theorem pe_disp1T {X : Cx} {k v : Expr} {tk tv : TE} {pos : Pos} (hu : X.A.units + 1 < cLine) (hk : PE X k tk) (hv : PE X v tv) : PE X (.Dict [some k] [v] pos) (tDisp1T tk tv) := by
  refine ⟨fun pins s σ H Q I h => ?_⟩
  have hn := I.hok.fresh (Nat.le_refl s.heap.objs.size)
  have I1 := I.laid (a := s.heap.objs.size) (o := .dT []) (h' := s.heap.push { cls := .type "dict", data := .dict #[] }) (t' := s.toks) (fun _ _ q => Heap.get?_push_of_some _ q) (Nat.le_refl _) (dt_empty s.heap I.big)
  rw [arm_eval_Dict, zip_pairTrees [some k] [v] X.env pos rfl rfl, dictDisplay_pairs (pairTrees [some k] [v] X.env pos) (fun e => nomatch e) (by show 1 < 17; decide)]
  refine wpAny_bind (wpAny_standAt (wpAny_bind ?_))
  unfold subDict
  refine wpAny_bind (wpAny_alloc (wpAny_bind (wpAny_holding ?_)))
  rw [if_pos (show (pairTrees [some k] [v] X.env pos).length ≤ 15 from (by show 1 ≤ 15; decide))]
  refine wpAny_bind (pairTrees_cons_walk (thn (hk.run pins _ σ _ _ I1 (h _ hn)) fun u s1 ⟨x, H1, J1, r1, q1⟩ => thn (hv.run pins s1 σ H1 _ J1 q1) fun u2 s2 ⟨y, H2, J2, r2, e2, ks, b, ex, eb, q2⟩ => pairTrees_nil_walk ?_))
  subst ex
  obtain rfl : u = Value.ref b := r1
  obtain ⟨z, hd, xs, rel, dd⟩ := dt_of J2.hok e2
  have hz : xs.length ≤ sizeLine := by
    rw [← Paired.length rel]
    exact z
  refine wpAny_holding ?_
  rw [List.forIn_cons]
  refine wpAny_bind (wpAny_bind (wpAny_bind (wpAny_dictSet_heap (hsz := hz) (show X.A.units < cLine by omega) (key_of J2.hok eb) dd fun h' dd' hs => wpAny_pure ?_)))
  dsimp only
  rw [List.forIn_nil]
  refine wpAny_pure (wpAny_pure (wpAny_pure (wpAny_pure ⟨.ref s.heap.objs.size, _, ?_, rfl, q2⟩)))
  obtain ⟨q, es, ep, hq, h2, h3, h4, _, h5⟩ := dd'
  refine d_write J2 (by rw [e2]; exact True.intro) hs ⟨q, hq⟩ ⟨?_, hd, _, (rel.put ks eb r2).keeps fun c ys ec => ?_, q, es, ep, hq, h2, h3, h4, h5⟩
  · show 1 ≤ sizeLine
    decide
  · rw [upd_ne (ne_of ec e2 (fun z => nomatch z))]
    exact ec
/-! ## the dict of the walk: each pile of the row with its turns -/
def tk (p : List Int) : List Key := p.map Sum.inl
theorem tk_kV (p : List Int) : (tk p).map kV = p.map V.int := by
  unfold tk
  rw [List.map_map] <;> rfl
theorem tk_inj {p q : List Int} (h : tk p = tk q) : p = q := by
  have := congrArg (List.map (fun k : Key => match k with | .inl i => i | .inr _ => (0 : Int))) h
  unfold tk at this
  rw [List.map_map, List.map_map] at this
  have e : ∀ l : List Int, l.map ((fun k : Key => match k with | .inl i => i | .inr _ => (0 : Int)) ∘ Sum.inl) = l := fun l => List.map_id' l
  rw [e, e] at this
  exact this
def dkv (f : List Int → V) (row : List (List Int)) : List (List Key × V) := row.map fun p => (tk p, f p)
theorem dkv_len (f : List Int → V) (row : List (List Int)) : (dkv f row).length = row.length := List.length_map _
theorem dkv_in {f : List Int → V} {p : List Int} : ∀ {row : List (List Int)}, p ∈ row → valV (dkv f row) (tk p) = some (f p)
  | q :: row, h => by
    by_cases e : q = p
    · subst e
      exact valV_pos rfl
    · have hm : p ∈ row := by
        rcases List.mem_cons.mp h with c | c
        · exact absurd c.symm e
        · exact c
      have ih := dkv_in (f := f) hm
      unfold valV at *
      show ((dkv f (q :: row)).find? _).map _ = _
      unfold dkv at *
      rw [List.map_cons, List.find?_cons]
      have hn : decide (tk q = tk p) = false := decide_eq_false fun x => e (tk_inj x)
      simp only [hn]
      exact ih
theorem dkv_out {f : List Int → V} {p : List Int} : ∀ {row : List (List Int)}, p ∉ row → valV (dkv f row) (tk p) = none
  | [], _ => rfl
  | q :: row, h => by
    have e : q ≠ p := fun x => h (by rw [x]; exact List.mem_cons_self)
    have ih := dkv_out (f := f) (fun x => h (List.mem_cons_of_mem q x))
    unfold valV at *
    show ((dkv f (q :: row)).find? _).map _ = _
    unfold dkv at *
    rw [List.map_cons, List.find?_cons]
    have hn : decide (tk q = tk p) = false := decide_eq_false fun x => e (tk_inj x)
    simp only [hn]
    exact ih
theorem dkv_put {f : List Int → V} {p : List Int} {row : List (List Int)} (h : p ∉ row) : putK (dkv f row) (tk p) (f p) = dkv f (row ++ [p]) := by
  unfold putK
  have : ((dkv f row).any fun kv => decide (kv.1 = tk p)) = false := by
    rw [List.any_eq_false]
    intro kv hkv
    unfold dkv at hkv
    obtain ⟨q, hq, rfl⟩ := List.mem_map.mp hkv
    simp only [decide_eq_true_eq]
    intro e
    exact h (by rw [← tk_inj e]; exact hq)
  rw [this, if_neg Bool.false_ne_true]
  unfold dkv
  rw [List.map_append] <;> rfl
/-- the tuples of a row -/
def Rows (H : Hp) (as : List Addr) (row : List (List Int)) : Prop := as.length = row.length ∧ ∀ j a, as[j]? = some a → H a = some (.tup ((row.getD j []).map V.int))
theorem Rows.at {H : Hp} {as : List Addr} {row : List (List Int)} (h : Rows H as row) {j : Nat} (hj : j < row.length) : ∃ a, as[j]? = some a ∧ H a = some (.tup ((row.getD j []).map V.int)) := by
  have hj2 : j < as.length := by rw [h.1]; exact hj
  exact ⟨as[j], List.getElem?_eq_getElem hj2, h.2 j _ (List.getElem?_eq_getElem hj2)⟩
theorem Rows.keep {H H' : Hp} {as : List Addr} {row : List (List Int)} (h : Rows H as row) (k : ∀ a xs, H a = some (.tup xs) → H' a = some (.tup xs)) : Rows H' as row := ⟨h.1, fun j a e => k _ _ (h.2 j a e)⟩
theorem Rows.snoc {H : Hp} {as : List Addr} {row : List (List Int)} {a : Addr} {p : List Int} (h : Rows H as row) (e : H a = some (.tup (p.map V.int))) : Rows H (as ++ [a]) (row ++ [p]) := by
  refine ⟨by rw [List.length_append, List.length_append, h.1] <;> rfl, fun j c hc => ?_⟩
  by_cases hj : j < as.length
  · rw [List.getElem?_append_left hj] at hc
    rw [getDl_app (by rw [← h.1]; exact hj)]
    exact h.2 j c hc
  · rw [List.getElem?_append_right (by omega)] at hc
    have hj2 : j = as.length := by
      have := (List.getElem?_eq_some_iff.mp hc).1
      have : j - as.length < 1 := this
      omega
    subst hj2
    rw [Nat.sub_self] at hc
    obtain rfl : a = c := Option.some.inj hc
    rw [h.1, getDl_last]
    exact e
theorem dget_of {H : Hp} {D o : Addr} {f : List Int → V} {row : List (List Int)} {q : List Int} (eD : Rd H D (.dT (dkv f row))) (h : q ∈ row) (e : H o = some (.tup (q.map V.int))) : DGet H D (.ref o) (some (f q)) :=
  .inr ⟨_, tk q, o, eD, rfl, by rw [tk_kV]; exact e, (dkv_in h).symm⟩
theorem dget_no {H : Hp} {D o : Addr} {f : List Int → V} {row : List (List Int)} {q : List Int} (eD : Rd H D (.dT (dkv f row))) (h : q ∉ row) (e : H o = some (.tup (q.map V.int))) : DGet H D (.ref o) none :=
  .inr ⟨_, tk q, o, eD, rfl, by rw [tk_kV]; exact e, (dkv_out h).symm⟩
theorem dkv_at {f : List Int → V} {row : List (List Int)} {i : Nat} {ks : List Key} {v : V} (h : (dkv f row)[i]? = some (ks, v)) : i < row.length ∧ ks = tk (row.getD i []) ∧ v = f (row.getD i []) := by
  have hi : i < row.length := by
    have := (List.getElem?_eq_some_iff.mp h).1
    rw [dkv_len] at this
    exact this
  unfold dkv at h
  rw [List.getElem?_map, List.getElem?_eq_getElem hi, Option.map_some] at h
  have e := Option.some.inj h
  rw [List.getD_eq_getElem?_getD, List.getElem?_eq_getElem hi]
  exact ⟨hi, (congrArg Prod.fst e).symm, (congrArg Prod.snd e).symm⟩
/-! ## for k in d, d's keys tuples; a comprehension over it -/
theorem for_keysT {d : Addr} {o : Obj} {kvs : List (List Key × V)} {g : TG} {tb : TS} {De : Ends} {σ : L2.St} {H : Hp} (Pv : Nat → L2.St → Hp → Prop) (h0 : Pv 0 σ H) (hG : ∀ i σ H, i ≤ kvs.length → Pv i σ H → H d = some (.frz o (.dT kvs)))
    (hs : ∀ i ks v q σ H, kvs[i]? = some (ks, v) → H q = some (.tup (ks.map kV)) → Pv i σ H → g (.ref q) σ H fun σ2 H2 => tb { De with nx := Pv (i + 1), ct := Pv (i + 1), bk := De.nx } σ2 H2) (hd : ∀ σ H, Pv kvs.length σ H → De.nx σ H) :
    ∃ W : Nat → Nat → L2.St → Hp → Prop, (∃ m, W 0 m σ H) ∧ ∀ i m σ H, W i m σ H →
      ((Itkt d o kvs).stop i H ∧ De.nx σ H) ∨ ((Itkt d o kvs).go i H ∧ ∃ N : L2.St → Hp → Prop, (∀ σ' H', N σ' H' → ∃ m', m' < m ∧ W (i + 1) m' σ' H') ∧ ∀ x H', (Itkt d o kvs).yld i H x H' → g x σ H' fun σ2 H2 => tb { De with nx := N, ct := N, bk := De.nx } σ2 H2) := by
  refine ⟨fun i m σ H => m = kvs.length - i ∧ i ≤ kvs.length ∧ Pv i σ H, ⟨kvs.length, rfl, Nat.zero_le _, h0⟩, ?_⟩
  rintro i m σ H ⟨rfl, hi, p⟩
  have q := hG i σ H hi p
  by_cases hlt : i < kvs.length
  · refine .inr ⟨⟨q, hlt⟩, Pv (i + 1), fun σ' H' p' => ⟨kvs.length - (i + 1), by omega, rfl, hlt, p'⟩, fun x H' y => ?_⟩
    obtain ⟨e, ks, v, q2, e2, e3, e4⟩ := y
    subst e e3
    exact hs i ks v q2 σ _ e2 e4 p
  · have e : i = kvs.length := by omega
    subst e
    exact .inl ⟨⟨q, Nat.le_refl _⟩, hd σ H p⟩
theorem lc_keysT {d : Addr} {o : Obj} {kvs : List (List Key × V)} {Hs : Hp} {k : Nat} {te : TE} {σ : L2.St} {D : Addr} {Qd : Hp → Prop} (h0 : Hs d = some (.frz o (.dT kvs))) (hD : Hs D = none) (hn : kvs.length ≤ 100000) (r : Nat → V)
    (he : ∀ (j : Nat) (ks : List Key) (v : V) (q : Addr) (H : Hp) (Q : VK), kvs[j]? = some (ks, v) → H q = some (.tup (ks.map kV)) → Same Hs H → (∀ H', Same H H' → Q (r j) H') → te (σ.set k (some (.ref q))) H Q)
    (hd : ∀ H', Same Hs H' → H' D = some (.lst ((List.range kvs.length).map r)) → Qd H') :
    ∃ W : Nat → Nat → Hp → Prop, (∃ m, W 0 m (upd Hs D (.lst []))) ∧ ∀ i m H, W i m H →
      ((Itkt d o kvs).stop i H ∧ Qd H) ∨ ((Itkt d o kvs).go i H ∧ ∃ Nx : Hp → Prop, (∀ H', Nx H' → ∃ m', m' < m ∧ W (i + 1) m' H') ∧ ∀ x H', (Itkt d o kvs).yld i H x H' → gName k x (wipe σ [k]) H' fun σ2 H2 => wipe σ2 [k] = wipe σ [k] ∧ tYes σ2 H2 fun b H3 =>
        if b = true then te σ2 H3 fun y H4 => ∃ acc, H4 D = some (.lst acc) ∧ acc.length < sizeLine ∧ Nx (upd H4 D (.lst (acc ++ [y]))) else Nx H3) := by
  have ew : ∀ v : Option V, (wipe σ [k]).set k v = σ.set k v := fun v => by
    show (σ.set k none).set k v = σ.set k v
    rw [List.set_set]
  refine ⟨fun i m H => m = kvs.length - i ∧ i ≤ kvs.length ∧ Same Hs H ∧ H D = some (.lst ((List.range i).map r)), ⟨kvs.length, rfl, Nat.zero_le _, same_new (Same.refl _) hD, upd_same⟩, ?_⟩
  rintro i m H ⟨rfl, hi, sH, hL⟩
  by_cases hlt : i < kvs.length
  · refine .inr ⟨⟨sH _ _ h0, hlt⟩, fun H' => Same Hs H' ∧ H' D = some (.lst ((List.range (i + 1)).map r)), fun H' p' => ⟨kvs.length - (i + 1), by omega, rfl, hlt, p'⟩, fun v H' yy => ?_⟩
    obtain ⟨e, ks, w, q2, e2, e3, e4⟩ := yy
    subst e e3
    unfold gName
    rw [ew]
    refine ⟨by show (σ.set k (some (.ref q2))).set k none = σ.set k none; rw [List.set_set], ?_⟩
    unfold tYes
    dsimp only
    rw [if_pos rfl]
    refine he i ks w q2 H' _ e2 e4 sH fun H3 s3 => ?_
    refine ⟨_, s3 _ _ hL, len_small' (by rw [List.length_map, List.length_range]; omega), same_mut (sH.trans s3) hD, ?_⟩
    rw [upd_same, List.range_succ, List.map_append] <;> rfl
  · have e : i = kvs.length := by omega
    subst e
    exact .inl ⟨⟨sH _ _ h0, Nat.le_refl _⟩, hd H sH hL⟩
end FL
namespace FL
open PySem PySem.Spec PyProof.Rows L2
/-! ## how many piles need so many turns -/
theorem dist_100 {b : Bool} {p : List Int} (hp : IsP b p) : dist b p ≤ 100 := by
  have hl := hp.len
  cases b with
  | true =>
    have h1 := (bplan_sorts (p := p) hp).2
    have h2 := dist_le (bplan_sorts (p := p) hp).1
    omega
  | false =>
    have h1 := (plan_sorts (p := p) hp).2
    have h2 := dist_le (plan_sorts (p := p) hp).1
    omega
def IsAll (b : Bool) (n : Nat) (row : List (List Int)) : Prop := row.Nodup ∧ ∀ p, p ∈ row ↔ Val b n p
theorem all_ex (b : Bool) (n : Nat) : ∃ row, IsAll b n row := by
  have : ∀ l : List (List Int), ∃ row : List (List Int), row.Nodup ∧ (∀ p ∈ row, Val b n p) ∧ ∀ p ∈ l, Val b n p → p ∈ row := by
    intro l
    induction l with
    | nil => exact ⟨[], by simp, fun p h => absurd h (by simp), fun p h => absurd h (by simp)⟩
    | cons x l ih =>
      obtain ⟨row, h1, h2, h3⟩ := ih
      by_cases hx : Val b n x ∧ x ∉ row
      · refine ⟨x :: row, List.nodup_cons.mpr ⟨hx.2, h1⟩, fun p h => ?_, fun p h hv => ?_⟩
        · rcases List.mem_cons.mp h with e | e
          · rw [e]
            exact hx.1
          · exact h2 p e
        · rcases List.mem_cons.mp h with e | e
          · rw [e]
            exact List.mem_cons_self
          · exact List.mem_cons_of_mem _ (h3 p e hv)
      · refine ⟨row, h1, h2, fun p h hv => ?_⟩
        rcases List.mem_cons.mp h with e | e
        · subst e
          exact Classical.byContradiction fun hn => hx ⟨hv, hn⟩
        · exact h3 p e hv
  obtain ⟨row, h1, h2, h3⟩ := this (allP b n)
  exact ⟨row, h1, fun p => ⟨h2 p, fun h => h3 p (mem_allP h) h⟩⟩
noncomputable def cnt (b : Bool) (n k : Nat) : Nat := ((Classical.choose (all_ex b n)).filter fun p => decide (dist b p = k)).length
theorem cnt_of {b : Bool} {n k : Nat} {row : List (List Int)} (h : row.Nodup) (hm : ∀ p, p ∈ row ↔ Val b n p ∧ dist b p = k) : row.length = cnt b n k := by
  obtain ⟨c1, c2⟩ := Classical.choose_spec (all_ex b n)
  unfold cnt
  refine Nat.le_antisymm (nodup_le h fun x hx => ?_) (nodup_le (c1.filter _) fun x hx => ?_)
  · obtain ⟨v, d⟩ := (hm x).mp hx
    exact List.mem_filter.mpr ⟨(c2 x).mpr v, decide_eq_true d⟩
  · obtain ⟨m, d⟩ := List.mem_filter.mp hx
    exact (hm x).mpr ⟨(c2 x).mp m, of_decide_eq_true d⟩
theorem cnt_all {b : Bool} {n k : Nat} {row : List (List Int)} (h : IsAll b n row) : (row.filter fun p => decide (dist b p = k)).length = cnt b n k :=
  cnt_of (h.1.filter _) fun p => by
    rw [List.mem_filter, h.2 p]
    exact ⟨fun x => ⟨x.1, of_decide_eq_true x.2⟩, fun x => ⟨x.1, decide_eq_true x.2⟩⟩
theorem cnt_pos {b : Bool} {n k : Nat} : 0 < cnt b n k ↔ ∃ p, Val b n p ∧ dist b p = k := by
  obtain ⟨row, h⟩ := all_ex b n
  rw [← cnt_all h, List.length_pos_iff_exists_mem]
  constructor
  · rintro ⟨p, hp⟩
    obtain ⟨m, d⟩ := List.mem_filter.mp hp
    exact ⟨p, (h.2 p).mp m, of_decide_eq_true d⟩
  · rintro ⟨p, v, d⟩
    exact ⟨p, List.mem_filter.mpr ⟨(h.2 p).mpr v, decide_eq_true d⟩⟩
theorem cnt_le {b : Bool} {n : Nat} (h : n ≤ if b = true then 4 else 6) (k : Nat) : cnt b n k ≤ 720 := by
  obtain ⟨row, hr⟩ := all_ex b n
  rw [← cnt_all hr]
  refine Nat.le_trans (nodup_le (hr.1.filter _) fun x hx => ?_) (allP_len b h)
  exact mem_allP ((hr.2 x).mp (List.mem_filter.mp hx).1)
theorem dist_less {b : Bool} {n : Nat} : ∀ (d : Nat) {p : List Int} {j : Nat}, Val b n p → dist b p = j + d → ∃ q, Val b n q ∧ dist b q = j
  | 0, p, j, hv, e => ⟨p, hv, e⟩
  | d + 1, p, j, hv, e => by
    obtain ⟨t, h1, h2, h3⟩ := dist_step hv.1 (m := j + d) (by omega)
    exact dist_less d (hv.flip t) h3
noncomputable def cntL (b : Bool) (n k : Nat) : List Int := (List.range k).map fun j => ((cnt b n j : Nat) : Int)
theorem cntL_length (b : Bool) (n k : Nat) : (cntL b n k).length = k := by
  unfold cntL
  rw [List.length_map, List.length_range]
theorem cntL_snoc (b : Bool) (n k : Nat) : cntL b n (k + 1) = cntL b n k ++ [((cnt b n k : Nat) : Int)] := by
  unfold cntL
  rw [List.range_succ, List.map_append] <;> rfl
/-- k levels and no more -/
def Levs (b : Bool) (n k : Nat) : Prop := (∀ j, j < k → 0 < cnt b n j) ∧ cnt b n k = 0
theorem Levs.eq {b : Bool} {n k m : Nat} (h : Levs b n k) (h' : Levs b n m) : k = m := by
  rcases Nat.lt_trichotomy k m with c | c | c
  · have := h'.1 k c
    have := h.2
    omega
  · exact c
  · have := h.1 m c
    have := h'.2
    omega
theorem Levs.of_max {b : Bool} {n m : Nat} {row : List (List Int)} (h : IsAll b n row) {p : List Int} (hp : p ∈ row) (e : dist b p = m) (hm : ∀ q ∈ row, dist b q ≤ m) : Levs b n (m + 1) := by
  refine ⟨fun j hj => cnt_pos.mpr ?_, ?_⟩
  · exact dist_less (m - j) ((h.2 p).mp hp) (by omega)
  · refine Nat.eq_zero_of_not_pos fun x => ?_
    obtain ⟨q, hq, d⟩ := cnt_pos.mp x
    have := hm q ((h.2 q).mpr hq)
    omega
/-- level k: the first i of here done; of the i-th, t turns -/
structure Lev (b : Bool) (n : Nat) (met here ahead : List (List Int)) (k i t : Nat) : Prop where
  nd : met.Nodup
  hh : ∀ p, p ∈ here ↔ Val b n p ∧ dist b p = k
  ndh : here.Nodup
  nda : ahead.Nodup
  va : ∀ p ∈ ahead, Val b n p ∧ dist b p = k + 1
  me : ∀ p, p ∈ met ↔ (Val b n p ∧ dist b p ≤ k) ∨ p ∈ ahead
  nbr : ∀ j, j < i → j < here.length → ∀ u, 1 ≤ u → u ≤ n → tflip b (here.getD j []) u ∈ met
  nbr1 : i < here.length → ∀ u, 1 ≤ u → u ≤ t → tflip b (here.getD i []) u ∈ met
theorem Lev.start (b : Bool) {n : Nat} (h : 1 ≤ n) (h2 : n ≤ 12) : Lev b n [upto n] [upto n] [] 0 0 0 where
  nd := by simp
  hh := fun p => by
    rw [List.mem_singleton]
    constructor
    · rintro rfl
      have hv := upto_isPv b h h2
      exact ⟨hv, (dist_zero hv.1).mpr (by rw [hv.2])⟩
    · rintro ⟨hv, d⟩
      have := (dist_zero hv.1).mp d
      rw [hv.2] at this
      exact this
  ndh := by simp
  nda := by simp
  va := fun p h => absurd h (by simp)
  me := fun p => by
    rw [List.mem_singleton]
    constructor
    · rintro rfl
      have hv := upto_isPv b h h2
      exact .inl ⟨hv, Nat.le_of_eq ((dist_zero hv.1).mpr (by rw [hv.2]))⟩
    · rintro (⟨hv, d⟩ | x)
      · have := (dist_zero hv.1).mp (by omega)
        rw [hv.2] at this
        exact this
      · exact absurd x (by simp)
  nbr := fun j h => absurd h (Nat.not_lt_zero _)
  nbr1 := fun _ u h1 h2 => by omega
theorem Lev.val {b : Bool} {n : Nat} {met here ahead : List (List Int)} {k i t : Nat} (h : Lev b n met here ahead k i t) {p : List Int} (hp : p ∈ met) : Val b n p := by
  rcases (h.me p).mp hp with x | x
  · exact x.1
  · exact (h.va p x).1
theorem Lev.size {b : Bool} {n : Nat} {met here ahead : List (List Int)} {k i t : Nat} (h : Lev b n met here ahead k i t) : met.length ≤ (allP b n).length ∧ here.length ≤ (allP b n).length ∧ ahead.length ≤ (allP b n).length :=
  ⟨nodup_le h.nd fun p hp => mem_allP (h.val hp), nodup_le h.ndh fun p hp => mem_allP ((h.hh p).mp hp).1, nodup_le h.nda fun p hp => mem_allP (h.va p hp).1⟩
theorem Lev.old {b : Bool} {n : Nat} {met here ahead : List (List Int)} {k i t : Nat} (h : Lev b n met here ahead k i t) (hm : tflip b (here.getD i []) (t + 1) ∈ met) : Lev b n met here ahead k i (t + 1) where
  nd := h.nd
  hh := h.hh
  ndh := h.ndh
  nda := h.nda
  va := h.va
  me := h.me
  nbr := h.nbr
  nbr1 := fun hi u h1 h2 => by
    by_cases e : u = t + 1
    · rw [e]
      exact hm
    · exact h.nbr1 hi u h1 (by omega)
theorem Lev.new {b : Bool} {n : Nat} {met here ahead : List (List Int)} {k i t : Nat} (h : Lev b n met here ahead k i t) (hi : i < here.length) (ht : t + 1 ≤ n) (hm : tflip b (here.getD i []) (t + 1) ∉ met) :
    Lev b n (met ++ [tflip b (here.getD i []) (t + 1)]) here (ahead ++ [tflip b (here.getD i []) (t + 1)]) k i (t + 1) := by
  have hv := (h.hh _).mp (getDl_mem hi)
  have h1 := dist_up hv.1.1 (t := t + 1) (by omega) (by rw [hv.1.2]; exact ht)
  have h2 : ¬ dist b (tflip b (here.getD i []) (t + 1)) ≤ k := fun hle => hm ((h.me _).mpr (.inl ⟨hv.1.flip _, hle⟩))
  have hd : dist b (tflip b (here.getD i []) (t + 1)) = k + 1 := by omega
  have hna : tflip b (here.getD i []) (t + 1) ∉ ahead := fun x => hm ((h.me _).mpr (.inr x))
  refine ⟨?_, h.hh, h.ndh, ?_, fun p hp => ?_, fun p => ?_, fun j hj hj2 u h1 h2 => List.mem_append_left _ (h.nbr j hj hj2 u h1 h2), fun _ u h1 h2 => ?_⟩
  · rw [List.nodup_append]
    refine ⟨h.nd, by simp, fun x hx y hy e => ?_⟩
    rw [List.mem_singleton.mp hy] at e
    exact hm (by rw [← e]; exact hx)
  · rw [List.nodup_append]
    refine ⟨h.nda, by simp, fun x hx y hy e => ?_⟩
    rw [List.mem_singleton.mp hy] at e
    exact hna (by rw [← e]; exact hx)
  · rcases List.mem_append.mp hp with q | q
    · exact h.va p q
    · rw [List.mem_singleton.mp q]
      exact ⟨hv.1.flip _, hd⟩
  · rw [List.mem_append, List.mem_append, h.me p, or_assoc]
  · by_cases e : u = t + 1
    · rw [e]
      exact List.mem_append_right _ (List.mem_singleton_self _)
    · exact List.mem_append_left _ (h.nbr1 hi u h1 (by omega))
theorem Lev.next {b : Bool} {n : Nat} {met here ahead : List (List Int)} {k i : Nat} (h : Lev b n met here ahead k i n) (hi : i < here.length) : Lev b n met here ahead k (i + 1) 0 where
  nd := h.nd
  hh := h.hh
  ndh := h.ndh
  nda := h.nda
  va := h.va
  me := h.me
  nbr := fun j hj hjl u h1 h2 => by
    by_cases e : j = i
    · rw [e]
      exact h.nbr1 hi u h1 h2
    · exact h.nbr j (by omega) hjl u h1 h2
  nbr1 := fun _ u h1 h2 => by omega
theorem Lev.up {b : Bool} {n : Nat} {met here ahead : List (List Int)} {k t : Nat} (h : Lev b n met here ahead k here.length t) : Lev b n met ahead [] (k + 1) 0 0 := by
  have key : ∀ p, Val b n p → dist b p = k + 1 → p ∈ ahead := fun p hv d => by
    obtain ⟨u, h1, h2, h3⟩ := dist_step hv.1 d
    obtain ⟨j, hj, e⟩ := mem_getDl ((h.hh _).mpr ⟨hv.flip u, h3⟩)
    have hm := h.nbr j hj hj u h1 (by rw [← hv.2]; exact h2)
    rw [e, tflip_tflip b h2] at hm
    rcases (h.me p).mp hm with x | x
    · have := x.2
      omega
    · exact x
  refine ⟨h.nd, fun p => ⟨h.va p, fun x => key p x.1 x.2⟩, h.nda, by simp, fun p x => absurd x (by simp), fun p => ?_, fun j hj => absurd hj (Nat.not_lt_zero _), fun _ u h1 h2 => by omega⟩
  rw [h.me p]
  constructor
  · rintro (x | x)
    · exact .inl ⟨x.1, by have := x.2; omega⟩
    · have := h.va p x
      exact .inl ⟨this.1, by omega⟩
  · rintro (x | x)
    · by_cases e : dist b p = k + 1
      · exact .inr (key p x.1 e)
      · exact .inl ⟨x.1, by have := x.2; omega⟩
    · exact absurd x (by simp)
/-- the tally of the first i of a row -/
noncomputable def tally (b : Bool) (m : Nat) (row : List (List Int)) : List Int := (List.range m).map fun k => (((row.filter fun p => decide (dist b p = k)).length : Nat) : Int)
theorem tally_length (b : Bool) (m : Nat) (row : List (List Int)) : (tally b m row).length = m := by
  unfold tally
  rw [List.length_map, List.length_range]
theorem tally_nil (b : Bool) (m : Nat) : tally b m [] = List.replicate m 0 := by
  unfold tally
  refine List.ext_getElem? fun i => ?_
  by_cases h : i < m
  · rw [List.getElem?_map, List.getElem?_range h, List.getElem?_replicate, if_pos h] <;> rfl
  · rw [List.getElem?_eq_none (by rw [List.length_map, List.length_range]; omega), List.getElem?_eq_none (by rw [List.length_replicate]; omega)]
theorem tally_at {b : Bool} {m k : Nat} {row : List (List Int)} (h : k < m) : (tally b m row)[k]? = some (((row.filter fun p => decide (dist b p = k)).length : Nat) : Int) := by
  unfold tally
  rw [List.getElem?_map, List.getElem?_range h] <;> rfl
theorem tally_snoc {b : Bool} {m : Nat} {row : List (List Int)} {p : List Int} : (tally b m row).set (dist b p) ((((row.filter fun q => decide (dist b q = dist b p)).length : Nat) : Int) + 1) = tally b m (row ++ [p]) := by
  refine List.ext_getElem? fun i => ?_
  by_cases h : i < m
  · rw [List.getElem?_set, tally_at h, tally_at h, List.filter_append, List.length_append]
    by_cases e : dist b p = i
    · rw [if_pos e, if_pos (by rw [tally_length]; omega), e]
      have : [p].filter (fun q => decide (dist b q = i)) = [p] := by
        rw [List.filter_cons, if_pos (decide_eq_true e)] <;> rfl
      rw [this] <;> rfl
    · rw [if_neg e]
      have : [p].filter (fun q => decide (dist b q = i)) = [] := by
        rw [List.filter_cons, if_neg (by simp [e])] <;> rfl
      rw [this] <;> rfl
  · rw [List.getElem?_eq_none (by rw [List.length_set, tally_length]; omega), List.getElem?_eq_none (by rw [tally_length]; omega)]
theorem tally_all {b : Bool} {n m : Nat} {row : List (List Int)} (h : IsAll b n row) : tally b m row = cntL b n m := by
  unfold tally cntL
  refine List.map_congr_left fun k _ => ?_
  rw [cnt_all h]
end FL
namespace FL
open PySem PySem.Spec PyProof.Rows L2
/-! ## name = [elt for target in iter], where a call in elt may let an exception out

Three steps: what the model's `comprehension` does around its block (comp_runs); the way out of the block (comp_out); the block's loop (comp_loop). The rule is ps_setLcX. -/
/-- of the frames, only the frame's address is asked -/
theorem note_same {e : Value} {p q : Env} (h : p.frame = q.frame) : noteFrame e p = noteFrame e q := by
  unfold noteFrame PySem.frameOf
  rw [h]
/-- what is left of a heap with C taken out -/
theorem hid_iff {h : Heap} {C b : Addr} {o : Obj} : (PySem.W.hideAll h [C]).get? b = some o ↔ b ≠ C ∧ h.get? b = some o := by
  constructor
  · intro e
    have n : b ≠ C := by
      rintro rfl
      have z := PySem.W.hideAll_none (h := h) [b] (List.mem_singleton_self b)
      rw [e] at z
      cases z
    exact ⟨n, PySem.W.of_hideAll [C] e⟩
  · rintro ⟨n, e⟩
    exact PySem.W.hideAll_get [C] e fun z => n (List.mem_singleton.mp z)
theorem hid_none {h : Heap} {C b : Addr} (e : h.get? b = none) : (PySem.W.hideAll h [C]).get? b = none :=
  Option.eq_none_iff_forall_not_mem.mpr fun o z => by
    have := (hid_iff.mp z).2
    rw [e] at this
    cases this
/-- frames that are not C stay where only C changes -/
theorem frames_of {B h k : Heap} {C : Addr} (same : ∀ b, b ≠ C → k.get? b = h.get? b) (l : List Env) (no : C ∉ frs l) (f : h.FunFrames B l) : k.FunFrames B l := by
  induction l with
  | nil => trivial
  | cons env l ih =>
    obtain ⟨kind, ⟨L, o, at_, new, there, data⟩, rest⟩ := f
    have hL : L ∈ frs (env :: l) := List.mem_filterMap.mpr ⟨env, List.mem_cons_self, at_⟩
    have sub : ∀ x, x ∈ frs l → x ∈ frs (env :: l) := fun x hx => by
      obtain ⟨e2, m, q⟩ := List.mem_filterMap.mp hx
      exact List.mem_filterMap.mpr ⟨e2, List.mem_cons_of_mem _ m, q⟩
    refine ⟨kind, ⟨L, o, at_, new, ?_, data⟩, ih (fun z => no (sub C z)) rest⟩
    rw [same L fun z => no (z ▸ hL)]
    exact there
/-- behind the block: the list is stored, or the exception goes on -/
def After (X : Cx) (u : Value → Sem Unit) (Q : Value → Shared → Prop) (acc : Value) (ce : Env) : Result → Shared → Prop
  | .ok _, s => wpAny (model X.prog X.w) X.A (u acc) (fun _ t => ∃ m, t.heap.Ns ce.locals m ∧ ∀ k, Heap.SameBut ce.locals t.heap k → Q .none { t with heap := k }) X.xe s
  | .error x, s => ∃ m, s.heap.Ns ce.locals m ∧ ∀ k, Heap.SameBut ce.locals s.heap k → wpAny (model X.prog X.w) X.A (passOn "comprehension.variables-let-go" x ce : Sem Value) (fun _ _ => False) X.xe { s with heap := k }
theorem comp_runs {X : Cx} {s : Shared} {elt tg iter : Expr} {scope : Scope} {pos at_ : Pos} {cl : List (Str × Addr)} {u : Value → Sem Unit} {Q : Value → Shared → Prop} (hs : ∀ v, foldedSetIterable iter X.env v = pure v) (hc : closureFor scope X.env = pure cl)
    (kind : scope.kind = .function) (once : ∀ y ∈ scope.names, y.2 = .local → scope.names.lookup y.1 = some .local)
    (h : wpAny (model X.prog X.w) X.A (eval iter X.env) (fun v s1 => wpAny (model X.prog X.w) X.A (pyIter v) (fun it s2 => wpAny (model X.prog X.w) X.A (newList []) (fun acc s3 =>
      wpAny (model X.prog X.w) X.A (newFunctionEnv scope X.env.globals cl [] X.env.qual none .none (some X.env)) (fun c s4 =>
        codeAny (model X.prog X.w) X.A (.compStart (.ListComp elt [⟨tg, iter, [], 0⟩] scope pos) 0 it acc { c with scope := relabel scope X.env }) (After X u Q acc { c with scope := relabel scope X.env }) s4) X.xe s3) X.xe s2) X.xe s1) X.xe s) :
    wpAny (model X.prog X.w) X.A (comprehension (.ListComp elt [⟨tg, iter, [], 0⟩] scope pos) scope X.env at_ (newList []) false (eval iter X.env) (some u)) Q X.xe s := by
  have on : ∀ {α : Type} {m : Sem α} {P P' : α → Shared → Prop} {t : Shared}, wpAny (model X.prog X.w) X.A m P X.xe t → (∀ v t', P v t' → P' v t') → wpAny (model X.prog X.w) X.A m P' X.xe t := fun a b => wpAny_mono a b fun _ _ z => z
  unfold comprehension
  rw [hc, show clausesOf (.ListComp elt [⟨tg, iter, [], 0⟩] scope pos) = [⟨tg, iter, [], 0⟩] from rfl]
  refine wpAny_bind (on h fun v s1 h1 => ?_)
  refine wpAny_bind (wpAny_standAt ?_)
  refine wpAny_bind (wpAny_of_eq (hs v) ?_)
  refine wpAny_bind (wpAny_holding (on h1 fun it s2 h2 => ?_))
  refine wpAny_standIf (wpAny_bind (on h2 fun acc s3 h3 => ?_))
  refine wpAny_bind (wpAny_pure ?_)
  refine wpAny_bind (on h3 fun c s4 h4 => ?_)
  dsimp only
  -- its names, let go one by one
  have loc : ∀ y, y ∈ (scope.names.filter fun n => (n.2 == .local || n.2 == .cell) && n.1 != (".0" : Str)) → y.2 = .local → Env.kindOf { c with scope := relabel scope X.env } y.1 = some .local := fun y m e =>
    lookup_relabel_local (once y (List.mem_filter.mp m).1 e)
  refine wpAny_holding (wpAny_bind ?_)
  refine wpAny_attempt (wpAny_holding (wpAny_run ?_))
  refine codeAny_mono h4 fun r s5 h5 => ?_
  match r, h5 with
  | .ok _, h5 =>
    refine wpAny_bind (wpAny_rule (wpAny_bind (wpAny_holding (on h5 ?_))))
    rintro - s6 ⟨m, ns, fin⟩
    refine wpAny_bind (wpAny_comp_letGo (cenv := { c with scope := relabel scope X.env }) kind _ s6 m (fun y hy => loc y ?_) ns fun k _ _ sb => wpAny_pure (fin k sb))
    rcases List.mem_append.mp hy with z | z
    · exact List.mem_reverse.mp (List.mem_of_mem_drop z)
    · exact List.mem_reverse.mp (List.mem_of_mem_take z)
  | .error x, ⟨m, ns, fin⟩ =>
    refine wpAny_bind (wpAny_holding (wpAny_comp_letGo (cenv := { c with scope := relabel scope X.env }) kind _ s5 m (fun y hy => loc y (List.mem_reverse.mp hy)) ns fun k _ _ sb => ?_))
    exact wpAny_mono (fin k sb) (fun _ _ z => z.elim) fun _ _ z => z
/-- an exception in the air is noted in its frame -/
theorem sky_note {B : Heap} {env : Env} {outer : List Env} {a L : Addr} {cls : Value} {d : Option Addr} {M : Model} {A : Around} {E : Value → Shared → Prop} {s : Shared} {Q : Unit → Shared → Prop} (hA : A.frames = some (env :: outer)) (hf : env.frame = some L)
    (x : Sky B (env :: outer) a (Zc cls d) L s.heap) (q : ∀ k, HandSPX.HeldZ B (env :: outer) a (Zc cls d) L k → s.heap.UpToSlots k → Q () { s with heap := k }) : wpAny M A (noteFrame (.ref a) env) Q E s := by
  rcases x with ⟨x1, x2, x3, oe, vs, x4, x5, x6, x7⟩ | x | x
  · exact HandSPX.look_newZ Zc.steady hA x3 hf x4 x1 x2 x6 x7 x5 q
  · exact HandSPX.looks_onZ Zc.steady hA hf x q
  · exact HandSPX.againZ hf x.2.2.2 (q s.heap x (Heap.UpToSlots.refl _))
section
variable {X : Cx}
/-- what the block's exceptions are: a call's, from a state of the block -/
def InBlk (X : Cx) (s : Shared) (H : Hp) (scope : Scope) (ce : Env) (fp : List Addr) (E : XK) : Value → Shared → Prop := fun u t => ∃ (pl : List (Addr × Obj)) (τ : L2.St) (G : Hp) (r : Shared), Inv (X.blk s H scope ce fp) pl τ G r ∧ L2.CX X.prog X.w X.stack G r E u t
/-- the block, its exceptions told so -/
abbrev Blk (X : Cx) (s : Shared) (H : Hp) (scope : Scope) (ce : Env) (fp : List Addr) (E : XK) : Cx := (X.blk s H scope ce fp).wish (InBlk X s H scope ce fp E)
/-- the def's own state, seen from the block -/
theorem blk_own {pl pins : List (Addr × Obj)} {τ σ : L2.St} {G H : Hp} {s r : Shared} {scope : Scope} {ce : Env} {fp : List Addr} (I : Inv X pins σ H s) (J : Inv (X.blk s H scope ce fp) pl τ G r) (cL : ce.locals = s.heap.objs.size) (ff : ∀ b ∈ fp, FpOk X pins H b ∧ b < s.heap.objs.size) :
    Inv X pins σ G r ∧ FpOk X pins G s.heap.objs.size ∧ ∃ m, r.heap.Ns s.heap.objs.size m := by
  have no : G s.heap.objs.size = none := cL ▸ (show G ce.locals = none from J.free)
  obtain ⟨m, ns, -⟩ := J.loc
  refine ⟨I.call' (ch := fp) J.os J.base J.hok J.bare fun b hb => ?_, I.fpOk (Nat.le_refl _) no, m, cL ▸ (show r.heap.Ns ce.locals m from ns)⟩
  obtain ⟨⟨-, f1, -, f3, f4, f5⟩, -⟩ := ff b hb
  exact ⟨f3, f1, f4, f5⟩
/-- the way out of the block -/
theorem comp_out {pins : List (Addr × Obj)} {σ : L2.St} {H : Hp} {s : Shared} {scope : Scope} {ce : Env} {fp : List Addr} {E : XK} {u : Value → Sem Unit} {Q : Value → Shared → Prop} {acc : Value} {E1 : Value → Shared → Prop}
    (hst : X.stack = X.env :: X.outer) (hfr : X.env.frame = some X.env.locals) (tk : L2.Takes X (fun cls d _ H => E cls d H)) (I : Inv X pins σ H s) (cL : ce.locals = s.heap.objs.size) (cF : ce.frame = X.env.frame)
    (ff : ∀ b ∈ fp, FpOk X pins H b ∧ b < s.heap.objs.size) {x : Value} {t : Shared} (h : InBlk X s H scope ce fp E x t) : wpAny (model X.prog X.w) X.A (noteFrame x ce) (fun _ t' => After X u Q acc ce (.error x) t') E1 t := by
  obtain ⟨pl, τ, G, r, J, c⟩ := h
  obtain ⟨I1, fC, m, ns⟩ := blk_own I J cL ff
  generalize s.heap.objs.size = C at cL fC ns
  obtain ⟨oC, es, ep, eC, dC, keys⟩ := id ns
  have own : C ∉ frs (X.env :: X.outer) := fun z => (List.mem_cons.mp (I1.stkSub C (hst ▸ z))).elim fC.2.1 fC.2.2.1
  -- the block's variables pinned, the exception in the def's own air
  have I2 := (I1.pinned (fp := [C]) (fun b hb => List.mem_singleton.mp hb ▸ fC) fun b hb => ⟨oC, by rw [List.mem_singleton.mp hb]; exact eC, fun v z => by rw [dC] at z; cases z⟩).toTry fun _ _ => True
  obtain ⟨a, B, r1, pl1, τ1, G1, cls, d, rfl, J1, nb, up, sky, na, os, ag, hE⟩ := XE.of_call (W := fun cls d _ H => E cls d H) I2 (fun _ _ _ z => z) c
  obtain ⟨pC, gC, -⟩ := J1.pin (C, oC) (List.mem_append_left _ (List.mem_append_right _ (List.mem_append_right _ (mem_pinsAt (List.mem_singleton_self C) eC))))
  have I3 : Inv X pins τ1 G1 r1 := (J1.ofTry I1.ok).unpinned
  have I4 := I3.turned (t' := r1.toks) (h' := PySem.W.hideAll r1.heap [C]) (it := C) (fun b o n e => hid_iff.mpr ⟨n, e⟩) gC fC.2.1 fC.2.2.2.1 fC.2.2.2.2.1 fC.2.2.2.2.2
  have bC : B.get? C = some oC := nb C oC pC (show C ∉ frs X.stack from hst ▸ own)
  have hA : X.A.frames = some (X.env :: X.outer) := hst ▸ I1.ok.frames
  rw [note_same cF]
  refine sky_note hA hfr (show Sky B (X.env :: X.outer) a (Zc cls d) X.env.locals t.heap from hst ▸ sky) fun k ⟨q1, q2, q3, oe, vs, T, oT, ts, q4, q5, q6, q7, q8, q9, q10, q11, q12⟩ upk => ?_
  have aC : a ≠ C := by
    rintro rfl
    rw [bC] at q2
    cases q2
  have TC : T ≠ C := by
    rintro rfl
    rw [bC] at q8
    cases q8
  refine ⟨m, cL ▸ ⟨oC, es, ep, q1 C oC bC, dC, keys⟩, fun j sb => ?_⟩
  rw [cL] at sb
  have ja : j.get? a = some oe := (sb.2 a aC).trans q4
  have tr : HandSPX.TracedZ j (PySem.W.hideAll B [C]) a (Zc cls d) (rawInt X.env.locals) := ⟨oe, vs, T, oT, ts, ja, q5, q6, q7, hid_none q8, q9, (sb.2 T TC).trans q10, q11, q12⟩
  have stays : (PySem.W.hideAll B [C]).StaysIn j := fun b o e => (sb.2 b (hid_iff.mp e).1).trans (q1 b o (hid_iff.mp e).2)
  have fr := funFrames_none (B := PySem.W.hideAll B [C]) (frames_of sb.2 _ own q3) fun L hL => hid_none (q3.mem hL).1
  have go : wpAny (model X.prog X.w) X.A (setFlight (.ref a) ce.frame) (fun _ t4 => wpAny (model X.prog X.w) X.A (throw (.ref a) : Sem Value) (fun _ _ => False) X.xe t4) X.xe { t with heap := j } := by
    rw [cF, hfr]
    refine HandSPX.setFlight_anyZ stays fr tr fun z z1 z2 z3 z4 => wpAny_throw (tk _ _ ?_)
    refine ⟨a, PySem.W.hideAll B [C], _, pins, τ1, G1, cls, d, rfl, I4, fun b o e nf => ?_, fun b o e nd => ?_, .inr (.inr ?_), na, os, ag, hE⟩
    · obtain ⟨n, e⟩ := hid_iff.mp e
      exact hid_iff.mpr ⟨n, nb b o e nf⟩
    · obtain ⟨n, e⟩ := hid_iff.mp e
      obtain ⟨sl, e1⟩ := up b o e nd
      obtain ⟨sl, e2⟩ := upk b _ e1 nd
      obtain ⟨sl, e3⟩ := z4 b _ ((sb.2 b n).trans e2) nd
      exact ⟨sl, e3⟩
    · rw [hst]
      exact ⟨z1, hid_none q2, z2, z3⟩
  show wpAny _ _ (PySem.passOn _ _ _) _ _ _
  unfold PySem.passOn
  refine wpAny_bind (wpAny_field ja q6 q7 ?_)
  rw [if_neg (by simp)]
  first
    | exact wpAny_bind go
    | exact wpAny_bind (wpAny_pure (wpAny_bind go))
/-- the block's loop -/
theorem comp_loop {pins : List (Addr × Obj)} {σ : L2.St} {H : Hp} {s s0 : Shared} {elt tg iter : Expr} {scope : Scope} {pos : Pos} {ce : Env} {fp : List Addr} {it D : Addr} {J : It} {tn : Nat → Heap → Prop} {g : TG} {te : TE} {own : List Nat} {Qd : Hp → Prop} {E : XK} {u : Value → Sem Unit} {Q : Value → Shared → Prop}
    (hst : X.stack = X.env :: X.outer) (hfr : X.env.frame = some X.env.locals) (tk : L2.Takes X (fun cls d _ H => E cls d H)) (calm : X.calm = true) (I : Inv X pins σ H s) (cL : ce.locals = s.heap.objs.size) (cF : ce.frame = X.env.frame) (ff : ∀ b ∈ fp, FpOk X pins H b ∧ b < s.heap.objs.size)
    (T : Turn X.prog X.w X.K tg J fp it tn) (I0 : Inv (Blk X s H scope ce fp E) [] (wipe σ own) H s0) (t0 : tn 0 s0.heap) (pg : PG (Blk X s H scope ce fp E) tg g) (pe : PE (Blk X s H scope ce fp E) elt te)
    (W : Nat → Nat → Hp → Prop) (m0 : Nat) (w0 : W 0 m0 H)
    (turn : ∀ i m H, W i m H → (J.stop i H ∧ Qd H) ∨ (J.go i H ∧ ∃ Nx : Hp → Prop, (∀ H', Nx H' → ∃ m', m' < m ∧ W (i + 1) m' H') ∧ ∀ x H', J.yld i H x H' → g x (wipe σ own) H' fun τ G => wipe τ own = wipe σ own ∧ tYes τ G fun b F =>
      if b = true then te τ F fun y F' => ∃ acc, F' D = some (.lst acc) ∧ acc.length < sizeLine ∧ Nx (upd F' D (.lst (acc ++ [y]))) else Nx F))
    (fin : ∀ r m G, Inv X pins σ G r → Qd G → r.heap.Ns ce.locals m → FpOk X pins G ce.locals → After X u Q (.ref D) ce (.ok .next) r) :
    codeAny (model X.prog X.w) X.A (.compLoop (.ListComp elt [⟨tg, iter, [], 0⟩] scope pos) 0 (.ref it) (.ref D) ce) (After X u Q (.ref D) ce) s0 := by
  -- its objects, by the block
  have fpB : ∀ {τ : L2.St} {G : Hp} {r : Shared}, Inv (Blk X s H scope ce fp E) [] τ G r → (∀ b ∈ fp, G b = none) → ∀ b ∈ fp, FpOk (Blk X s H scope ce fp E) [] G b := fun {τ G r} K no b hb => by
    obtain ⟨e1, e2⟩ := K.ok.exf b hb
    refine ⟨no b hb, e1, K.ok.exfs b hb, Or.inl hb, e2, fun p hp => ?_⟩
    exact absurd hp List.not_mem_nil
  have bad := fun x t (z : InBlk X s H scope ce fp E x t) => comp_out (u := u) (Q := Q) (acc := .ref D) (E1 := fun e t' => After X u Q (.ref D) ce (.error e) t') hst hfr tk I cL cF ff (x := x) (t := t) z
  have quiet : ∀ {α : Type} {m : Sem α} {P P' : α → Shared → Prop} {F : Value → Shared → Prop} {r : Shared}, wpAny (model X.prog X.w) X.A m P (fun _ _ => False) r → (∀ v r', P v r' → P' v r') → wpAny (model X.prog X.w) X.A m P' F r := fun a b => wpAny_mono a b fun _ _ z => z.elim
  refine compLoop_any (fun n r => ∃ i G, Inv (Blk X s H scope ce fp E) [] (wipe σ own) G r ∧ tn i r.heap ∧ (∀ b ∈ fp, G b = none) ∧ W i n G) ?_ m0 ⟨0, H, I0, t0, fun b hb => (ff b hb).1.1, w0⟩
  rintro n r ⟨i, G, K, ti, no, w⟩
  rcases turn i n G w with ⟨st, q⟩ | ⟨go, Nx, next, step⟩
  · refine quiet (T.done (Blk X s H scope ce fp E) rfl rfl rfl calm i [] r _ G (fun _ _ => False) K (fpB K no) ti st) ?_
    rintro - r1 ⟨rfl, K1⟩
    obtain ⟨I1, f1, m, ns⟩ := blk_own I K1.unwish cL ff
    rw [← cL] at f1 ns
    exact fin r1 m G I1 q ns f1
  refine quiet (T.item (Blk X s H scope ce fp E) rfl rfl rfl calm i [] r _ G (fun _ _ => False) K (fpB K no) ti go) ?_
  rintro - r1 ⟨v, rfl, h1⟩
  refine quiet h1 fun _ r2 ⟨y, G2, K2, rel, yl, t2, no2⟩ => ?_
  have held := K2.pinned (fpB K2 no2) (T.obj _ _ t2)
  refine wpAny_mono (pg.run _ r2 _ G2 y v _ held rel (step y G2 yl)) (fun _ r3 ⟨τ3, G3, K3, wp, h3⟩ => ?_) bad
  refine wpAny_mono ((pts_nil (X := Blk X s H scope ce fp E)).run _ r3 τ3 G3 _ K3 h3) (fun b r4 ⟨G4, K4, h4⟩ => ?_) bad
  -- a turn's end
  have done : ∀ {r' : Shared} {G' : Hp}, Inv (Blk X s H scope ce fp E) ([] ++ pinsAt fp r2.heap) τ3 G' r' → Nx G' → ∃ m, m < n ∧ ∃ i G, Inv (Blk X s H scope ce fp E) [] (wipe σ own) G r' ∧ tn i r'.heap ∧ (∀ b ∈ fp, G b = none) ∧ W i m G := fun {r' G'} K' nx => by
    obtain ⟨m', lt, w'⟩ := next G' nx
    have pin := fun b (hb : b ∈ fp) o (e : r2.heap.get? b = some o) => K'.pin (b, o) (List.mem_append_right _ (List.mem_append_right _ (mem_pinsAt hb e)))
    refine ⟨m', lt, i + 1, G', K'.unpinned.weak (by rw [← wp, wipe_length]) fun j x e => (wipe_some (wp ▸ e)).1, T.keep _ _ _ t2 fun b hb o e => (pin b hb o e).1, fun b hb => ?_, w'⟩
    obtain ⟨o, e, -⟩ := T.obj _ _ t2 b hb
    exact (pin b hb o e).2.1
  cases b with
  | false =>
    rw [if_neg Bool.false_ne_true] at h4 ⊢
    exact done K4 h4
  | true =>
    rw [if_pos rfl] at h4 ⊢
    refine wpAny_mono (pe.run _ r4 τ3 G4 _ K4 h4) ?_ bad
    rintro x r5 ⟨y5, G5, K5, rel5, acc, e5, l5, nx⟩
    exact app_ok (X := Blk X s H scope ce fp E) K5 e5 l5 rel5 fun r6 K6 => done K6 nx
/-- the rule -/
theorem ps_setLcX {i : Nat} {y : Str} {py : Pos} {elt tg iter : Expr} {scope : Scope} {own : List (Str × Nat)} {pos spos : Pos} {wi : TI} {g : TG} {tt : TT} {te : TE} {E : XK} (hst : X.stack = X.env :: X.outer) (hfr : X.env.frame = some X.env.locals) (tk : L2.Takes X (fun cls d _ H => E cls d H)) (calm : X.calm = true) (hN : X.N.Nodup) (hy : X.N[i]? = some y) (hyl : X.env.scope.names.lookup y = some .local)
    (hsw : swapsWith (.ListComp elt [⟨tg, iter, [], 0⟩] scope pos) (some (.Name y py)) spos.line X.env = pure true) (hi : PI X tg iter wi) (ok : BlkOk X.N X.env.scope scope own)
    (hg : ∀ (s : Shared) (H : Hp) (C : Addr) (cl : List (Str × Addr)) (fp : List Addr) (xe : Value → Shared → Prop), PG ((X.blk s H scope (compEnvC scope cl C X.env) fp).wish xe) tg g) (htt : tt = tYes)
    (he : ∀ (s : Shared) (H : Hp) (C : Addr) (cl : List (Str × Addr)) (fp : List Addr) (xe : Value → Shared → Prop), (∀ σ, PassesAt (L2.CX X.prog X.w) ((X.blk s H scope (compEnvC scope cl C X.env) fp).wish xe) σ E) → PE ((X.blk s H scope (compEnvC scope cl C X.env) fp).wish xe) elt te) (hs : ∀ v, foldedSetIterable iter X.env v = pure v := by intro _; rfl) :
    PS X (.Assign [.Name y py] (.ListComp elt [⟨tg, iter, [], 0⟩] scope pos) spos) (tAsg (tLc wi g tt te (own.map (·.2))) (gName i)) := by
  subst htt
  refine ⟨fun pins s σ H D I h => ?_⟩
  have h : wi σ H fun J H1 => ∀ p, H1 p = none → ∃ W : Nat → Nat → Hp → Prop, (∃ m, W 0 m (upd H1 p (.lst []))) ∧ ∀ i' m H', W i' m H' → _ := h
  have cells : ∀ n ∈ scope.names, n.2 = .free → ∃ c, X.env.cells.lookup n.1 = some c := fun n hn e => I.ok.has _ (by rcases ok.free n hn e with z | z; exact .inl z; exact .inr z)
  rw [exec_Assign_Name_used _ _ _ _ hsw]
  refine wpAny_bind (wpAny_standAt (wpAny_bind (wpAny_bind ?_)))
  refine wpAny_mono (Q := fun _ r => SP X pins D .next r) ?_ (fun _ r q => wpAny_pure (wpAny_pure q)) fun _ _ z => z
  refine comp_runs hs (closure_ok cells) ok.kind (fun n hn e => e ▸ ok.uniq n hn) ?_
  refine thn (hi.run pins s σ H _ I h) fun v s1 h1 => thn h1 ?_
  rintro - s2 ⟨it, fp, tn, J, H2, rfl, I2, T, t2, f2, q⟩
  -- the new list
  refine wpAny_newObj_type ?_ (Nat.zero_le _)
  have new : H2 s2.heap.objs.size = none := I2.hok.fresh (Nat.le_refl _)
  obtain ⟨W, ⟨m0, w0⟩, turn⟩ := q _ new
  have I3 := I2.laid (a := s2.heap.objs.size) (o := .lst []) (h' := s2.heap.push { cls := .type "list", data := .seq ([] : List Value).toArray }) (t' := s2.toks) (fun b o e => Heap.get?_push_of_some _ e) (Nat.le_refl _) ⟨Nat.zero_le _, [], 0, .nil, Heap.get?_push_size _ rfl⟩
  have f3 : ∀ b ∈ fp, FpOk X pins (upd H2 s2.heap.objs.size (.lst [])) b ∧ b < (s2.heap.push { cls := .type "list", data := .seq ([] : List Value).toArray }).objs.size := fun b hb => by
    obtain ⟨o, e, -⟩ := T.obj _ _ t2 b hb
    have lt := Heap.lt_size e
    obtain ⟨f0, fr⟩ := f2 b hb
    refine ⟨⟨?_, fr⟩, ?_⟩
    · rw [upd_ne (Nat.ne_of_lt lt)]
      exact f0
    · rw [Heap.size_push]
      exact Nat.lt_succ_of_lt lt
  -- its block
  refine newEnv_comp ?_
  have I4 := block_start I3 ok hN f3
  have t4 : tn 0 (pushCells ((s2.heap.push { cls := .type "list", data := .seq ([] : List Value).toArray }).push { cls := .type "dict", data := .dict #[] }) scope.names) := T.keep _ _ _ t2 fun b _ o e => pushCells_keeps _ _ _ _ (Heap.get?_push_of_some _ (Heap.get?_push_of_some _ e))
  refine codeAny_compStart_list (comp_loop hst hfr tk calm I3 rfl rfl f3 T (I4.wish _) t4 (hg _ _ _ _ _ _) (he _ _ _ _ _ _ fun _ _ _ _ _ _ K c => ⟨_, _, _, _, K.unwish, c⟩) W m0 w0 turn ?fin) (T.self X.A 0 _ _ _ t4 (comp_loop hst hfr tk calm I3 rfl rfl f3 T (I4.wish _) t4 (hg _ _ _ _ _ _) (he _ _ _ _ _ _ fun _ _ _ _ _ _ K c => ⟨_, _, _, _, K.unwish, c⟩) W m0 w0 turn ?fin))
  intro r m G K q ns f
  show wpAny _ _ (assign (.Name y py) X.env (.ref _)) _ _ _
  refine wpAny_assign_Name (store_ok2 (v := .ref s2.heap.objs.size) K hN hy (.inl hyl) rfl (fun r2 K2 ⟨a, sb, ha⟩ => ?_) (.inr hyl))
  have ne : ∀ C : Addr, FpOk X pins G C → C ≠ a := fun C f z => by
    rcases ha with e | e
    · exact f.2.1 (z.trans e)
    · exact f.2.2.2.2.1 y a e z.symm
  refine ⟨m, ns.sameBut sb (ne _ f), fun k sk => ⟨_, G, ?_, q⟩⟩
  exact K2.turned (t' := r2.toks) (fun b o n e => (sk.2 b n).trans e) f.1 f.2.1 f.2.2.2.1 f.2.2.2.2.1 f.2.2.2.2.2
end
section
variable {X : Cx} {k j : Nat} {ps : List Str} {sp : Sp} {x : Str} {p pos : Pos} {e : Expr} {es : List Expr} {t : TA} {W : WX} {E : XK}
/-- a call within a comprehension, its exceptions let out -/
theorem pe_calP (G : Cal X.prog X.w X.K X.mg X.base x j ps sp) (hr : Room k X.A) (hj : j ≤ k) (hx : ∀ σ, PassesAt (L2.CX X.prog X.w) X σ E) (hg : Gl X x) (ha : PA X (e :: es) t)
    (hdb : (x == ("__debug__" : Str)) = false := by decide) (he : starEach (e :: es) X.env = (false, eval e X.env) :: starEach es X.env := by rfl) (hpl : (backTo pos (starEach es X.env)).any (·.1) = false := by rfl) :
    PE X (.Call (.Name x p) (e :: es) [] pos) (tCallS sp (fun _ => E) t) := by
  obtain ⟨f, fd, F, hm, hk, hb⟩ := G.ex
  exact pe_callS F (hr.mono hj) hg hm hk hb hx ha hdb he hpl
end
/-! ## calls whose exceptions have no context -/
structure CalN (P : Program) (w : World) (K : PySem.W.Frag) (mg : Str → Option Value) (base : Heap) (x : Str) (k : Nat) (ps : List Str) (sp : Sp) : Prop where
  ex : ∃ (f : Addr) (fd : FuncData), FnOk P w K mg base (L2N.CX P w) k f fd ps sp ∧ mg x = some (.ref f) ∧ PySem.W.keepIn K (.ref f) = true ∧ Binds K fd ps []
section
variable {X : Cx} {k j : Nat} {ps : List Str} {sp : Sp} {x : Str} {p pos : Pos} {e : Expr} {es : List Expr} {t : TA} {W : WX}
theorem pe_calN (G : CalN X.prog X.w X.K X.mg X.base x j ps sp) (hr : Room k X.A) (hj : j ≤ k) (tk : L2N.Takes X W) (hg : Gl X x) (ha : PA X (e :: es) t)
    (hdb : (x == ("__debug__" : Str)) = false := by decide) (he : starEach (e :: es) X.env = (false, eval e X.env) :: starEach es X.env := by rfl) (hpl : (backTo pos (starEach es X.env)).any (·.1) = false := by rfl) :
    PE X (.Call (.Name x p) (e :: es) [] pos) (tCallS sp (WE W) t) := by
  obtain ⟨f, fd, F, hm, hk, hb⟩ := G.ex
  exact pe_callS F (hr.mono hj) hg hm hk hb (fun σ => L2N.passAt tk σ) ha hdb he hpl
end
theorem tkOfN {P : Program} {w : World} {K : PySem.W.Frag} {mg : Str → Option Value} {base : Heap} {N : List Str} {qual : Str} {scope : Scope} {f : Addr} {cd : Value} {A : Around} {outer : List Env} {s : Shared} {H : Hp} {E : XK} :
    L2N.Takes (cxOf (L2N.CX P w) P w K mg base N qual scope f cd A outer s H E) (fun cls d _ H => E cls d H) := L2N.takes_of rfl rfl rfl rfl
section
variable {P : Program} {w : World} {K : PySem.W.Frag} {mg : Str → Option Value} {base : Heap}
theorem _root_.L2.Fun.okXN {x qual : Str} {st : Stmt} {f : Addr} {fd : FuncData} {N ps : List Str} {k : Nat} {sp : Sp} (F : Fun K x qual st f fd) (S : FnScope N ps (defScope st)) (len : ∀ vs H Q E, sp vs H Q E → vs.length = ps.length)
    (hbody : ∀ (cdv : Value) (A : Around) (outer : List Env) (s : Shared) (H : Hp) (vs : List V) (Q : VK) (E : XK), Room k (A.deeper (envOfC qual (defScope st) s.heap.objs.size f cdv)) → sp vs H Q E →
      ∃ t, PSs (cxOf (L2N.CX P w) P w K mg base N qual (defScope st) f cdv A outer s H E) (defBody st) t ∧ t { nx := fun _ H' => Q .non H', rt := Q } (L2.start N vs) H) : FnOk P w K mg base (L2N.CX P w) (k + 1) f fd ps sp := by
  obtain ⟨oc, od, kV, doc, pm, an, cdv, ct, osl, rfl, lk, hcd⟩ := F.ex
  exact fn_of lk hcd S len fun A outer s H vs Q E hr hsp => hbody cdv A outer s H vs Q E hr hsp
end
end FL
namespace FL
open PySem PySem.Spec PyProof.Rows L2 TL NumText
/-! ## what a text writes -/
theorem spl_bound (S : List Nat) : ∀ (l : List Nat) (k : Nat) (acc : List Nat), (spl S k acc l).length ≤ l.length + 1 ∧ 1 ≤ (spl S k acc l).length ∧ ∀ w ∈ spl S k acc l, w.length ≤ acc.length + l.length
  | [], k, acc => by
    rw [spl_nil]
    refine ⟨Nat.le_refl _, Nat.le_refl _, fun w hw => ?_⟩
    rw [List.mem_singleton.mp hw]
    exact Nat.le_add_right _ _
  | c :: r, 0, acc => by
    by_cases h : pre S (c :: r) = true
    · rw [spl_hit h]
      obtain ⟨h1, h2, h3⟩ := spl_bound S r (S.length - 1) []
      refine ⟨by rw [List.length_cons, List.length_cons]; omega, by rw [List.length_cons]; omega, fun w hw => ?_⟩
      rcases List.mem_cons.mp hw with e | e
      · rw [e]
        exact Nat.le_add_right _ _
      · have := h3 w e
        rw [List.length_nil] at this
        rw [List.length_cons]
        omega
    · rw [spl_miss (by simpa using h)]
      obtain ⟨h1, h2, h3⟩ := spl_bound S r 0 (acc ++ [c])
      refine ⟨by rw [List.length_cons]; omega, h2, fun w hw => ?_⟩
      have := h3 w hw
      rw [List.length_append, List.length_singleton] at this
      rw [List.length_cons]
      omega
  | c :: r, k + 1, acc => by
    show (spl S k acc r).length ≤ _ ∧ 1 ≤ (spl S k acc r).length ∧ ∀ w ∈ spl S k acc r, _
    obtain ⟨h1, h2, h3⟩ := spl_bound S r k acc
    refine ⟨by rw [List.length_cons]; omega, h2, fun w hw => ?_⟩
    have := h3 w hw
    rw [List.length_cons]
    omega
def words (t : Str) : List Str := Txt.split t " "
theorem tl_len (x : Str) : (tl x).length = x.length := Array.length_toList
theorem words_bound (t : Str) : (words t).length ≤ t.length + 1 ∧ 1 ≤ (words t).length ∧ ∀ w ∈ words t, w.length ≤ t.length := by
  have e := split_spl t " " (by rw [tl_blank]; simp) (kind_ok (by decide +kernel))
  obtain ⟨h1, h2, h3⟩ := spl_bound (tl (" " : Str)) (tl t) 0 []
  rw [← e, List.length_map, tl_len] at h1
  rw [← e, List.length_map] at h2
  refine ⟨h1, h2, fun w hw => ?_⟩
  have := h3 (tl w) (by rw [← e]; exact List.mem_map_of_mem hw)
  rw [tl_len, tl_len, List.length_nil] at this
  omega
/-- the number of a word, nought where it writes none -/
noncomputable def numW (w : Str) : Int := @ite _ (OkW w) (Classical.propDecidable _) (wval w) 0
theorem numW_ok {w : Str} (h : OkW w) : numW w = wval w := by
  unfold numW
  exact if_pos h
theorem numW_no {w : Str} (h : ¬ OkW w) : numW w = 0 := by
  unfold numW
  exact if_neg h
noncomputable def dueW (b : Bool) (w : Str) : Int := if b = true ∧ isNeg w then -numW (tailW w) else numW w
def okX (b : Bool) (w : Str) : Prop := if b = true then OkB w else OkW w
def valX (b : Bool) (w : Str) : Int := if b = true then bval w else wval w
theorem wval_nn (w : Str) : 0 ≤ wval w := Int.natCast_nonneg _
theorem due_ok {b : Bool} {w : Str} (h : okX b w) : dueW b w = valX b w := by
  cases b with
  | false =>
    have h : OkW w := h
    unfold dueW valX
    rw [if_neg (fun x => Bool.false_ne_true x.1), if_neg Bool.false_ne_true, numW_ok h]
  | true =>
    have h : OkB w := h
    unfold dueW valX
    rw [if_pos rfl]
    unfold OkB at h
    unfold bval
    by_cases hn : isNeg w
    · rw [if_pos hn] at h
      rw [if_pos ⟨rfl, hn⟩, if_pos hn, numW_ok h]
    · rw [if_neg hn] at h
      rw [if_neg (fun x => hn x.2), if_neg hn, numW_ok h]
theorem due_no {b : Bool} {w : Str} (h : ¬ okX b w) : dueW b w = 0 := by
  cases b with
  | false =>
    have h : ¬ OkW w := h
    unfold dueW
    rw [if_neg (fun x => Bool.false_ne_true x.1), numW_no h]
  | true =>
    have h : ¬ OkB w := h
    unfold dueW
    unfold OkB at h
    by_cases hn : isNeg w
    · rw [if_pos hn] at h
      rw [if_pos ⟨rfl, hn⟩, numW_no h]
      rfl
    · rw [if_neg hn] at h
      rw [if_neg (fun x => hn x.2), numW_no h]
noncomputable def dues (b : Bool) (t : Str) : List Int := (words t).map (dueW b)
theorem dues_len (b : Bool) (t : Str) : (dues b t).length = (words t).length := List.length_map _
def Good (b : Bool) (t : Str) : Prop := IsPile ((dues b t).map iabs)
theorem good_all {b : Bool} {t : Str} (h : Good b t) : ∀ w ∈ words t, okX b w := fun w hw => Classical.byContradiction fun hn => by
  have hm : (0 : Int) ∈ (dues b t).map iabs := List.mem_map.mpr ⟨0, List.mem_map.mpr ⟨w, hw, due_no hn⟩, rfl⟩
  have := ((IsPile.mem h).mp hm).1
  omega
theorem vals_eq {b : Bool} {t : Str} (h : ∀ w ∈ words t, okX b w) : (words t).map (valX b) = dues b t := List.map_congr_left fun w hw => (due_ok (h w hw)).symm
theorem plain_abs {t : Str} (h : ∀ w ∈ words t, okX false w) : (dues false t).map iabs = dues false t := by
  rw [← vals_eq h, List.map_map]
  refine List.map_congr_left fun w _ => ?_
  show iabs (valX false w) = valX false w
  exact iabs_pos (wval_nn w)
theorem good_plain {t : Str} (h : ∀ w ∈ words t, okX false w) : Good false t ↔ IsPile (dues false t) := by
  unfold Good
  rw [plain_abs h]
theorem good_burnt {t : Str} : Good true t ↔ IsBurnt (dues true t) := Iff.rfl
/-! ## a comprehension whose element may raise: behind it each was fit -/
theorem lc_ok {J : It} {n : Nat} {y : Nat → V} {H1 Hs : Hp} {k : Nat} {te : TE} {σ : L2.St} {D : Addr} {Qd : Hp → Prop} (I : ItIs J n y H1) (hD : Hs D = none) (s0 : Same H1 Hs) (hn : n ≤ 100000) (ok : Nat → Prop) (r : Nat → V)
    (he : ∀ (j : Nat) (H : Hp) (Q : VK), j < n → Same Hs H → (ok j → ∀ H', Same H H' → Q (r j) H') → te (σ.set k (some (y j))) H Q)
    (hd : (∀ j, j < n → ok j) → ∀ H', Same Hs H' → H' D = some (.lst ((List.range n).map r)) → Qd H') :
    ∃ W : Nat → Nat → Hp → Prop, (∃ m, W 0 m (upd Hs D (.lst []))) ∧ ∀ i m H, W i m H →
      (J.stop i H ∧ Qd H) ∨ (J.go i H ∧ ∃ Nx : Hp → Prop, (∀ H', Nx H' → ∃ m', m' < m ∧ W (i + 1) m' H') ∧ ∀ x H', J.yld i H x H' → gName k x (wipe σ [k]) H' fun σ2 H2 => wipe σ2 [k] = wipe σ [k] ∧ tYes σ2 H2 fun b H3 =>
        if b = true then te σ2 H3 fun y H4 => ∃ acc, H4 D = some (.lst acc) ∧ acc.length < sizeLine ∧ Nx (upd H4 D (.lst (acc ++ [y]))) else Nx H3) := by
  have ew : ∀ v : Option V, (wipe σ [k]).set k v = σ.set k v := fun v => by
    show (σ.set k none).set k v = σ.set k v
    rw [List.set_set]
  refine ⟨fun i m H => m = n - i ∧ i ≤ n ∧ Same Hs H ∧ H D = some (.lst ((List.range i).map r)) ∧ ∀ j, j < i → ok j, ⟨n, rfl, Nat.zero_le _, same_new (Same.refl _) hD, upd_same, fun j hj => absurd hj (Nat.not_lt_zero _)⟩, ?_⟩
  rintro i m H ⟨rfl, hi, sH, hL, hok⟩
  by_cases hlt : i < n
  · refine .inr ⟨I.go i H (s0.trans sH) hlt, fun H' => Same Hs H' ∧ H' D = some (.lst ((List.range (i + 1)).map r)) ∧ ∀ j, j < i + 1 → ok j, fun H' p' => ⟨n - (i + 1), by omega, rfl, hlt, p'⟩, fun v H' yy => ?_⟩
    obtain ⟨e, e2⟩ := I.yld i H v H' (s0.trans sH) hlt yy
    subst e e2
    unfold gName
    rw [ew]
    refine ⟨by show (σ.set k (some (y i))).set k none = σ.set k none; rw [List.set_set], ?_⟩
    unfold tYes
    dsimp only
    rw [if_pos rfl]
    refine he i H' _ hlt sH fun hk H3 s3 => ?_
    refine ⟨_, s3 _ _ hL, len_small' (by rw [List.length_map, List.length_range]; omega), same_mut (sH.trans s3) hD, ?_, fun j hj => ?_⟩
    · rw [upd_same, List.range_succ, List.map_append] <;> rfl
    · by_cases e : j = i
      · rw [e]
        exact hk
      · exact hok j (by omega)
  · have e : i = n := by omega
    subst e
    exact .inl ⟨I.stop _ H (s0.trans sH) (Nat.le_refl _), hd hok H sH hL⟩
theorem map_vals (b : Bool) (ws : List Str) : (List.range ws.length).map (fun j => V.int (valX b (ws.getD j (⟨#[]⟩ : Str)))) = (ws.map (valX b)).map V.int := by
  rw [List.map_map]
  refine List.ext_getElem? fun i => ?_
  by_cases hi : i < ws.length
  · rw [List.getElem?_map, List.getElem?_range hi, List.getElem?_map, List.getElem?_eq_getElem hi, Option.map_some, Option.map_some, List.getD_eq_getElem?_getD, List.getElem?_eq_getElem hi] <;> rfl
  · rw [List.getElem?_eq_none (by rw [List.length_map, List.length_range]; omega), List.getElem?_eq_none (by rw [List.length_map]; omega)]
theorem strs_at {ws : List Str} {j : Nat} (hj : j < (ws.map V.str).length) : (ws.map V.str).getD j .non = V.str (ws.getD j (⟨#[]⟩ : Str)) ∧ ws.getD j (⟨#[]⟩ : Str) ∈ ws := by
  rw [List.length_map] at hj
  refine ⟨?_, ?_⟩
  · rw [List.getD_eq_getElem?_getD, List.getElem?_map, List.getElem?_eq_getElem hj, List.getD_eq_getElem?_getD, List.getElem?_eq_getElem hj] <;> rfl
  · rw [List.getD_eq_getElem?_getD, List.getElem?_eq_getElem hj]
    exact List.getElem_mem hj
/-! ## pieces of texts -/
theorem atI_some {xs : List Nat} {i : Int} (h0 : 0 ≤ i) (h1 : i < xs.length) : ∃ c, atI xs i = some c := by
  obtain ⟨n, rfl⟩ : ∃ n : Nat, i = (n : Int) := ⟨i.toNat, by omega⟩
  have hn : n < xs.length := by omega
  exact ⟨xs[n], atI_nat (List.getElem?_eq_getElem hn)⟩
theorem len_app (x y : Str) : (x ++ y).length = x.length + y.length := by
  rw [← tl_len, tl_append, List.length_append, tl_len, tl_len]
theorem cutS_to (z : Str) (k : Nat) : (cutS z none (some (k : Int))).length = min k z.length := by
  rw [← tl_len]
  unfold cutS
  show (List.take (HT.sIx z.length z.length (some (k : Int)) - HT.sIx z.length 0 none) (List.drop (HT.sIx z.length 0 none) z.cps.toList)).length = _
  rw [HT.sIx_nat, HT.sIx_none, List.drop_zero, Nat.sub_zero, List.length_take]
  have hl : z.cps.toList.length = z.length := Array.length_toList
  rw [hl]
  omega
theorem cutS_of (z : Str) (k : Nat) : (cutS z (some (k : Int)) none).length = z.length - k := by
  rw [← tl_len]
  unfold cutS
  show (List.take (HT.sIx z.length z.length none - HT.sIx z.length 0 (some (k : Int))) (List.drop (HT.sIx z.length 0 (some (k : Int))) z.cps.toList)).length = _
  rw [HT.sIx_nat, HT.sIx_none, List.length_take, List.length_drop]
  have hl : z.cps.toList.length = z.length := Array.length_toList
  rw [hl]
  omega
def odds1 : List Str := ["", " ", "0", "1 ", " 1", "1  2", "2", "1 1", "1 3", "01", "1 02", "+1", "1_0", "-", "- 1", "-1 -", "--1"]
def odds2 : List Str := ["1-", "1 2 3 4 5 6 7 8 9 10 11 12 13", "12 11 10 9 8 7 6 5 4 3 2 1", "-2 -1", "1 -2", "1,2"]
theorem odds_len : (odds1 ++ odds2).length = 23 ∧ ∀ w ∈ odds1 ++ odds2, w.length ≤ 60 := by decide +kernel
end FL
/-! ### words of the walk: ne (two addresses apart), hp (what stands at an address), free, same, sq (a list read), rd (reading on) -/
local macro_rules | `(tactic| walk_at "hp") => `(tactic| first
  | assumption
  | exact L2.upd_same
  | (refine FL.upd_old (by assumption) ?_; walk_at "hp")
  | (refine FL.upd_oth (by walk_at "ne") ?_; walk_at "hp")
  | (refine FL.Same.at (by assumption) ?_; walk_at "hp"))
local macro_rules | `(tactic| walk_at "ne") => `(tactic| first
  | assumption
  | exact Ne.symm (by assumption)
  | (refine L2.ne_of_none ?_ (by assumption); walk_at "hp")
  | (refine Ne.symm (L2.ne_of_none ?_ (by assumption)); walk_at "hp"))
local macro_rules | `(tactic| walk_at "free") => `(tactic| first
  | assumption
  | (refine FL.frees ?_ (by assumption); walk_at "same"))
local macro_rules | `(tactic| walk_at "same") => `(tactic| first
  | assumption
  | exact L2.Same.refl _
  | (refine FL.same_new ?_ (by assumption); walk_at "same")
  | (refine FL.same_mut ?_ ?_; (walk_at "same"); (walk_at "free"))
  | (refine L2.Same.trans ?_ (by assumption); walk_at "same"))
local macro_rules | `(tactic| walk_at "sq") => `(tactic| first
  | assumption
  | exact L2.SqL.of (by walk_at "hp")
  | (refine FL.sq_same ?_ (by assumption); walk_at "same"))
local macro_rules | `(tactic| walk_at "rd") => `(tactic| repeat (first
  | refine ⟨_, rfl, ?_⟩
  | refine ⟨_, _, rfl, rfl, ?_⟩
  | refine ⟨.inl ⟨rfl, _, by walk_at "sq"⟩, ?_⟩
  | refine ⟨_, _, rfl, .inl (by walk_at "sq"), ?_⟩
  | refine ⟨(by show (0 : Int) < _; decide), ?_⟩
  | refine ⟨⟨by decide, by decide⟩, ?_⟩
  | refine ⟨_, _, _, rfl, (by walk_at "sq"), (by first | decide | omega), ?_⟩))
namespace FL
open PySem L2
def sp__law_burnt : Sp := fun vs H Q _ => ∃ (a : Addr) (ns : List Int) (m : Int), vs = [.ref a, .int m] ∧ H a = some (.lst (ns.map V.int)) ∧ ns.length ≤ 1000 ∧
  ∀ bs : List Int, bs.map iabs = ns.map iabs → RL H bs Q
def cell (ns : List Int) (k : Nat) : Int := ns.getD k 0
def sp_cell (K : PySem.W.Frag) : Sp := fun vs H Q _ => ∃ (a : Addr) (ns : List Int) (t : Int), vs = [.ref a, .int t] ∧ SqL K H a (ns.map V.int) ∧ 0 ≤ t ∧ Q (.int (cell ns t.toNat)) H
def sp_pile (K : PySem.W.Frag) : Sp := fun vs H Q _ => ∃ (a : Addr) (ns : List Int) (t m : Nat), vs = [.ref a, .int (t : Nat), .int (m : Nat)] ∧ SqL K H a (ns.map V.int) ∧ 1 ≤ m ∧ m ≤ 12 ∧
  ∀ pl : List Int, IsPile pl → pl.length ≤ m → RL H pl Q
def sp_sign : Sp := fun vs H Q E => ∃ z : Int, vs = [.int z] ∧ ∀ w : Str, w.length = 1 → Q (.str w) H
def sp_spoiled : Sp := fun vs H Q E => ∃ (t : Str) (x y : Int), vs = [.str t, .int x, .int y] ∧ t.length ≤ 59 ∧ ∀ w : Str, w.length ≤ t.length + 1 → Q (.str w) H
def sp_odd : Sp := fun vs H Q E => ∃ z : Int, vs = [.int z] ∧ ∀ w : Str, w.length ≤ 60 → RV H (.str w) Q
def sp_number : Sp := fun vs H Q E => ∃ w : Str, vs = [.str w] ∧ w.length ≤ 600 ∧ RV H (.int (numW w)) Q
theorem nfig_mem (c : Nat) : c ∈ ("0123456789" : Str).cps.toList ↔ 48 ≤ c ∧ c ≤ 57 := by
  have e : ("0123456789" : Str).cps.toList = [48, 49, 50, 51, 52, 53, 54, 55, 56, 57] := by decide +kernel
  rw [e]
  simp only [List.mem_cons, List.not_mem_nil, or_false]
  omega
def sp_due : Sp := fun vs H Q E => ∃ (t : Str) (b : Bool), vs = [.str t, .bl b] ∧ t.length ≤ 60 ∧ (Good b t → RL H (dues b t) Q) ∧ (¬ Good b t → RV H .non Q)
theorem good_len {b : Bool} {t : Str} (h : Good b t) : (dues b t).length ≤ 12 := by
  have := h.2.1
  rw [List.length_map] at this
  exact this
theorem good_of {b : Bool} {t : Str} {ns' : List Int} (hl : (dues b t).length ≤ 12) (h1 : 1 ≤ (dues b t).length) (hp : ns'.Perm ((dues b t).map iabs)) (e : ns' = upto (dues b t).length) : Good b t := by
  unfold Good
  refine ⟨by rw [List.length_map]; exact h1, by rw [List.length_map]; exact hl, ?_⟩
  rw [List.length_map, ← e]
  exact hp.symm
theorem neg_text (w : Str) : (V.str (cutS w none (some 1)) = V.str "-") ↔ isNeg w := ⟨fun e => (neg_head w).mp (V.str.inj e), fun h => by rw [(neg_head w).mpr h]⟩
theorem dueW_neg {w : Str} (h : isNeg w) : dueW true w = -numW (tailW w) := by
  unfold dueW
  exact if_pos ⟨rfl, h⟩
theorem dueW_pos {b : Bool} {w : Str} (h : ¬ (b = true ∧ isNeg w)) : dueW b w = numW w := by
  unfold dueW
  exact if_neg h
def sp_cop (C : Addr) : Sp := fun vs H Q E => ∃ w : Str, vs = [.str w] ∧ w.length ≤ 600 ∧ (OkW w → RV H (.int (wval w)) Q) ∧ (¬ OkW w → E (.ref C) none H)
theorem fig_mem (c : Nat) : c ∈ ("0123456789" : Str).cps.toList ↔ 48 ≤ c ∧ c ≤ 57 := by
  have e : ("0123456789" : Str).cps.toList = [48, 49, 50, 51, 52, 53, 54, 55, 56, 57] := by decide +kernel
  rw [e]
  simp only [List.mem_cons, List.not_mem_nil, or_false]
  omega
def sp_co (C : Addr) : Sp := fun vs H Q E => ∃ w : Str, vs = [.str w] ∧ w.length ≤ 600 ∧ (OkB w → RV H (.int (bval w)) Q) ∧ (¬ OkB w → E (.ref C) none H)
def sp_ask_pile (C : Addr) : Sp := fun vs H Q E => ∃ (a : Addr) (ns : List Int), vs = [.ref a] ∧ H a = some (.lst (ns.map V.int)) ∧ ns.length < 64 ∧ (IsPile ns → RV H .non Q) ∧ (¬ IsPile ns → RX H C E)
def sp_ask_burnt (C : Addr) : Sp := fun vs H Q E => ∃ (a : Addr) (ns : List Int), vs = [.ref a] ∧ H a = some (.lst (ns.map V.int)) ∧ ns.length < 64 ∧ (IsBurnt ns → RV H .non Q) ∧ (¬ IsBurnt ns → RX H C E)
def sp_burnt_read (C : Addr) : Sp := fun vs H Q E => ∃ t : Str, vs = [.str t] ∧ t.length ≤ 60 ∧ (Good true t → RL H (dues true t) Q) ∧ (¬ Good true t → RX H C E)
def sp_read (C : Addr) : Sp := fun vs H Q E => ∃ t : Str, vs = [.str t] ∧ t.length ≤ 60 ∧ (Good false t → RL H (dues false t) Q) ∧ (¬ Good false t → RX H C E)
def sp_toldB : Sp := fun vs H Q E => ∃ (t : Str) (b : Bool), vs = [.str t, .bl b] ∧ t.length ≤ 60 ∧ (Good b t → RL H (dues b t) Q) ∧
  (¬ Good b t → ∀ (q : Addr) (H' : Hp), Same H H' → H q = none → H' q = some (.lst (bls false false false false true)) → Q (.ref q) H')
theorem small_log {i : Int} (h : -12 ≤ i ∧ i ≤ 12) : i.natAbs.log2 < 1920 := by
  have h1 : i.natAbs < 2 ^ 1920 := Nat.lt_of_lt_of_le (show i.natAbs < 13 by omega) (by decide +kernel)
  by_cases e : i.natAbs = 0
  · rw [e]
    decide
  · exact (Nat.log2_lt e).mpr h1
theorem sum_short : ∀ l : List Nat, (∀ x ∈ l, x ≤ 3) → l.sum ≤ 3 * l.length
  | [], _ => Nat.le_refl _
  | x :: l, h => by
    have h1 := h x List.mem_cons_self
    have h2 := sum_short l fun y hy => h y (List.mem_cons_of_mem _ hy)
    rw [List.sum_cons, List.length_cons]
    omega
theorem bls_eq : bls false false false false true = ([false, false, false, false, true, true] : List Bool).map V.bl := rfl
end FL
namespace Toy
open PySem L2 FL
def top (i : Nat) : Stmt := PySem.Challenge.pw_flipstack_k14_texts_refused.main.body.getD i (.Pass ⟨0, 0, 0, 0⟩)
abbrev s__law_burnt : Stmt := top 21
theorem sc__law_burnt : FnScope ["pile", "cell", "found", "cake"] ["pile", "cell"] (defScope s__law_burnt) := ⟨rfl, rfl, rfl, by decide +kernel, rfl, by decide +kernel, by decide +kernel⟩
abbrev s__law_cell_at : Stmt := top 18
theorem sc__law_cell_at : FnScope ["script", "k"] ["script", "k"] (defScope s__law_cell_at) := ⟨rfl, rfl, rfl, by decide +kernel, rfl, by decide +kernel, by decide +kernel⟩
abbrev s__law_pile : Stmt := top 20
theorem sc__law_pile : FnScope ["script", "at", "most", "size", "left", "pile", "k"] ["script", "at", "most"] (defScope s__law_pile) := ⟨rfl, rfl, rfl, by decide +kernel, rfl, by decide +kernel, by decide +kernel⟩
abbrev s__law_sign_by : Stmt := top 23
theorem sc__law_sign_by : FnScope ["cell", "signs"] ["cell"] (defScope s__law_sign_by) := ⟨rfl, rfl, rfl, by decide +kernel, rfl, by decide +kernel, by decide +kernel⟩
abbrev s__law_spoiled : Stmt := top 28
theorem sc__law_spoiled : FnScope ["text", "cell", "other", "at"] ["text", "cell", "other"] (defScope s__law_spoiled) := ⟨rfl, rfl, rfl, by decide +kernel, rfl, by decide +kernel, by decide +kernel⟩
abbrev s__law_odd : Stmt := top 24
theorem sc__law_odd : FnScope ["cell", "some"] ["cell"] (defScope s__law_odd) := ⟨rfl, rfl, rfl, by decide +kernel, rfl, by decide +kernel, by decide +kernel⟩
abbrev s__law_number : Stmt := top 25
theorem sc__law_number : FnScope ["word", "sign"] ["word"] (defScope s__law_number) := ⟨rfl, rfl, rfl, by decide +kernel, rfl, by decide +kernel, by decide +kernel⟩
abbrev s__law_due : Stmt := top 26
theorem sc__law_due : FnScope ["text", "burnt", "pile", "word", "cake"] ["text", "burnt"] (defScope s__law_due) := ⟨rfl, rfl, rfl, by decide +kernel, rfl, by decide +kernel, by decide +kernel⟩
abbrev s_cake_of_plain : Stmt := top 14
theorem sc_cake_of_plain : FnScope ["word", "sign"] ["word"] (defScope s_cake_of_plain) := ⟨rfl, rfl, rfl, by decide +kernel, rfl, by decide +kernel, by decide +kernel⟩
abbrev s_cake_of : Stmt := top 13
theorem sc_cake_of : FnScope ["word"] ["word"] (defScope s_cake_of) := ⟨rfl, rfl, rfl, by decide +kernel, rfl, by decide +kernel, by decide +kernel⟩
abbrev s_ask_pile : Stmt := top 9
theorem sc_ask_pile : FnScope ["pile"] ["pile"] (defScope s_ask_pile) := ⟨rfl, rfl, rfl, by decide +kernel, rfl, by decide +kernel, by decide +kernel⟩
abbrev s_ask_burnt : Stmt := top 10
theorem sc_ask_burnt : FnScope ["pile", "cake"] ["pile"] (defScope s_ask_burnt) := ⟨rfl, rfl, rfl, by decide +kernel, rfl, by decide +kernel, by decide +kernel⟩
abbrev s_burnt_read : Stmt := top 16
theorem sc_burnt_read : FnScope ["text", "pile", "word"] ["text"] (defScope s_burnt_read) := ⟨rfl, rfl, rfl, by decide +kernel, rfl, by decide +kernel, by decide +kernel⟩
abbrev s_read : Stmt := top 15
theorem sc_read : FnScope ["text", "pile", "word"] ["text"] (defScope s_read) := ⟨rfl, rfl, rfl, by decide +kernel, rfl, by decide +kernel, by decide +kernel⟩
abbrev s__law_which : Stmt := top 22
theorem sc__law_which : FnScope ["e", "some"] ["e"] (defScope s__law_which) := ⟨rfl, rfl, rfl, by decide +kernel, rfl, by decide +kernel, by decide +kernel⟩
abbrev s__law_told : Stmt := top 27
theorem sc__law_told : FnScope ["text", "burnt", "told", "e"] ["text", "burnt"] (defScope s__law_told) := ⟨rfl, rfl, rfl, by decide +kernel, rfl, by decide +kernel, by decide +kernel⟩
abbrev s_law : Stmt := top 29
theorem sc_law : FnScope ["script", "pile", "text", "cake", "burnt", "due", "found"] ["script"] (defScope s_law) := ⟨rfl, rfl, rfl, by decide +kernel, rfl, by decide +kernel, by decide +kernel⟩
structure Txt (K : PySem.W.Frag) (mg : Str → Option Value) (c : ExA) : Prop where
  dum : True
  z_ValueError : mg "ValueError" = none
  z_abs : mg "abs" = none
  z_int : mg "int" = none
  z_isinstance : mg "isinstance" = none
  z_len : mg "len" = none
  z_list : mg "list" = none
  z_range : mg "range" = none
  z_sorted : mg "sorted" = none
  z_str : mg "str" = none
  m_MOST : ∃ t, mg "MOST" = some (.int 12 t)
  m_FIGURES : ∃ t, mg "FIGURES" = some (.str "0123456789" t)
  e_FlipError : Exn K mg "FlipError" c.FlipError
  e_NoPile : Exn K mg "NoPile" c.NoPile
  e_NoTurn : Exn K mg "NoTurn" c.NoTurn
  e_TooTall : Exn K mg "TooTall" c.TooTall
  e_NoBack : Exn K mg "NoBack" c.NoBack
  e_BadLine : Exn K mg "BadLine" c.BadLine
  w_BadLine : Which K c c.BadLine false false false false true
  xs_NoPile : PySem.W.exmOne K (.ref c.NoPile) (.ref c.NoPile) = some true
section
variable {P : Program} {w : World} {K : PySem.W.Frag} {mg : Str → Option Value} {base : Heap} {c : ExA} (T : Txt K mg c)
include T
theorem ok__law_burnt {f : Addr} {fd : FuncData} (F : Fun K "_law_burnt" "_law_burnt" s__law_burnt f fd) : FnOk P w K mg base (L2.CX P w) 1 f fd ["pile", "cell"] sp__law_burnt := by
  refine F.okX sc__law_burnt (fun vs H Q E h => ?_) (fun cdv A outer s H vs Q E hr h => ?_)
  · obtain ⟨a, ns, m, rfl, _⟩ := h
    rfl
  · obtain ⟨a, ns, m, rfl, ha, hlen, kQ⟩ := h
    refine ⟨_, (pss_cons (ps_set (i := 2) sc__law_burnt.nd rfl (Or.inl rfl) (pe_lst pa_nil))
      (pss_cons (ps_for (passes_of rfl) rfl (pi_list (pv 0)) (pg_name (i := 3) sc__law_burnt.nd rfl (Or.inl rfl)) (pss_cons (ps_expr (pe_bm PySem.F.plainAttrs_list PySem.F.slot_list_append PySem.F.type_list_append mt_append (pv 2) (pa_cons (pe_ix ix_list (pe_lst (pa_cons (pv 3) (pa_cons (pe_un un_neg (pv 3)) pa_nil))) (pe_op op_mod (pv 1) pe_int) (fun _ _ => rfl)) pa_nil)))
      (pss_one (ps_set (i := 1) sc__law_burnt.nd rfl (Or.inl rfl) (pe_op op_fdiv (pv 1) pe_int)))))
      (pss_one (ps_ret (pv 2))))), ?_⟩
    refine ⟨Nat.zero_le _, fun p hp => ?_⟩
    walk_at "rd"
    refine ⟨⟨_, by walk_at "sq"⟩, for_it (itl_ints (K := K) (ns := ns) (H1 := H) (SqL.of ha))
      (fun i σ H' => ∃ (bs : List Int) (y : Int) (v : Option V), σ = [some (.ref a), some (.int y), some (.ref p), v] ∧ Same H H' ∧ H' p = some (.lst (bs.map V.int)) ∧ bs.map iabs = (ns.take i).map iabs)
      ⟨[], m, none, rfl, by walk_at "same", by walk_at "hp", rfl⟩ (fun i σ H' ⟨_, _, _, _, s, _⟩ => s) ?_ ?_⟩
    · rintro i σ H' hi ⟨bs, y, v, rfl, s, eP, eb⟩
      walk_at "rd"
      refine ⟨(by show 2 ≤ sizeLine; decide), fun q hq => ?_⟩
      walk_at "rd"
      have lb : bs.length ≤ 1000 := by
        have := congrArg List.length eb
        rw [List.length_map, List.length_map, List.length_take] at this
        omega
      have m0 : 0 ≤ y % 2 := Int.emod_nonneg _ (by decide)
      have m1 : y % 2 < 2 := Int.emod_lt_of_pos _ (by decide)
      by_cases c0 : y % 2 = 0
      · refine ⟨q, _, _, V.int (ns.getD i 0), rfl, rfl, by walk_at "sq", (by show atI _ (y % 2) = _; rw [c0]; rfl), ?_⟩
        refine ⟨p, _, _, rfl, rfl, by walk_at "hp", len_small' (by rw [List.length_map]; omega), ?_⟩
        walk_at "rd"
        refine ⟨bs ++ [ns.getD i 0], _, _, rfl, same_mut (same_new s hq) hp, ?_, ?_⟩
        · rw [upd_same, List.map_append] <;> rfl
        · rw [take_snoc hi, List.map_append, List.map_append, eb] <;> simp only [List.map_cons, List.map_nil, iabs_neg]
      · refine ⟨q, _, _, V.int (-(ns.getD i 0)), rfl, rfl, by walk_at "sq", (by show atI _ (y % 2) = _; rw [show y % 2 = 1 by omega]; rfl), ?_⟩
        refine ⟨p, _, _, rfl, rfl, by walk_at "hp", len_small' (by rw [List.length_map]; omega), ?_⟩
        walk_at "rd"
        refine ⟨bs ++ [-(ns.getD i 0)], _, _, rfl, same_mut (same_new s hq) hp, ?_, ?_⟩
        · rw [upd_same, List.map_append] <;> rfl
        · rw [take_snoc hi, List.map_append, List.map_append, eb] <;> simp only [List.map_cons, List.map_nil, iabs_neg]
    · rintro σ H' ⟨bs, y, v, rfl, s, eP, eb⟩
      rw [List.take_length] at eb
      walk_at "rd"
      exact kQ bs eb p H' s hp eP
theorem ok__law_cell_at {f : Addr} {fd : FuncData} (F : Fun K "_law_cell_at" "_law_cell_at" s__law_cell_at f fd) : FnOk P w K mg base (L2.CX P w) 1 f fd ["script", "k"] (sp_cell K) := by
  refine F.okX sc__law_cell_at (fun vs H Q E h => ?_) (fun cdv A outer s H vs Q E hr h => ?_)
  · obtain ⟨a, ns, t, rfl, _⟩ := h
    rfl
  · obtain ⟨a, ns, t, rfl, hS, h0, kQ⟩ := h
    obtain ⟨k, rfl⟩ : ∃ k : Nat, t = (k : Int) := ⟨t.toNat, by omega⟩
    rw [Int.toNat_natCast] at kQ
    refine ⟨_, (pss_cons (ps_if (pt_cmpR op_lt (pv 1) (pe_callB call_len_seq (by rfl) T.z_len PySem.boot_len (pa_cons (pv 0) pa_nil)) (nomark _)) (pss_one (ps_ret (pe_ix ix_list (pv 0) (pv 1) (fun _ _ => rfl)))) pss_nil)
      (pss_one (ps_ret pe_int))), ?_⟩
    walk_at "rd"
    by_cases hk : k < ns.length
    · refine iteDT (by rw [List.length_map]; omega) ?_
      walk_at "rd"
      refine ⟨_, _, _, _, rfl, rfl, by walk_at "sq", atI_nat (j := k) (v := V.int (cell ns k)) ?_, kQ⟩
      rw [List.getElem?_map, List.getElem?_eq_getElem hk]
      show some (V.int _) = some (V.int _)
      unfold cell
      rw [List.getD_eq_getElem?_getD, List.getElem?_eq_getElem hk]
      rfl
    · refine iteDF (by rw [List.length_map]; omega) ?_
      have e : cell ns k = 0 := by
        unfold cell
        rw [List.getD_eq_getElem?_getD, List.getElem?_eq_none (by omega)]
        rfl
      rw [e] at kQ
      exact kQ
theorem ok__law_pile {f : Addr} {fd : FuncData} (F : Fun K "_law_pile" "_law_pile" s__law_pile f fd) (G__law_cell_at : Cal P w K mg base "_law_cell_at" 1 ["script", "k"] (sp_cell K)) : FnOk P w K mg base (L2.CX P w) 2 f fd ["script", "at", "most"] (sp_pile K) := by
  refine F.okX sc__law_pile (fun vs H Q E h => ?_) (fun cdv A outer s H vs Q E hr h => ?_)
  · obtain ⟨a, ns, t, m, rfl, _⟩ := h
    rfl
  · obtain ⟨a, ns, t, m, rfl, hS, m1, m12, kQ⟩ := h
    refine ⟨_, (pss_cons (ps_set (i := 3) sc__law_pile.nd rfl (Or.inl rfl) (pe_op op_add pe_int (pe_op op_mod (pe_cal G__law_cell_at hr (by decide) takes0 rfl (pa_cons (pv 0) (pa_cons (pv 1) pa_nil))) (pv 2))))
      (pss_cons (ps_set (i := 4) sc__law_pile.nd rfl (Or.inl rfl) (pe_listRg rfl rfl T.z_list (prg_2 rfl T.z_range pe_int (pe_op op_add (pv 3) pe_int))))
      (pss_cons (ps_set (i := 5) sc__law_pile.nd rfl (Or.inl rfl) (pe_lst pa_nil))
      (pss_cons (ps_for (passes_of rfl) rfl (pi_range1 rfl T.z_range (pa_cons (pv 3) pa_nil)) (pg_name (i := 6) sc__law_pile.nd rfl (Or.inl rfl)) (pss_one (ps_expr (pe_bm PySem.F.plainAttrs_list PySem.F.slot_list_append PySem.F.type_list_append mt_append (pv 5) (pa_cons (pe_bm PySem.F.plainAttrs_list PySem.F.slot_list_pop PySem.F.type_list_pop mt_popAt (pv 4) (pa_cons (pe_op op_mod (pe_cal G__law_cell_at hr (by decide) takes0 rfl (pa_cons (pv 0) (pa_cons (pe_op op_add (pe_op op_add (pv 1) pe_int) (pv 6)) pa_nil))) (pe_callB call_len_seq (by rfl) T.z_len PySem.boot_len (pa_cons (pv 4) pa_nil))) pa_nil)) pa_nil)))))
      (pss_one (ps_ret (pv 5))))))), ?_⟩
    walk_at "rd"
    refine ⟨(by show (0 : Int) < _; omega), ?_⟩
    rw [Int.toNat_natCast]
    have z0 : 0 ≤ cell ns t % (m : Int) := Int.emod_nonneg _ (by omega)
    have z1 : cell ns t % (m : Int) < m := Int.emod_lt_of_pos _ (by omega)
    obtain ⟨z, hz⟩ : ∃ z : Nat, 1 + cell ns t % (m : Int) = (z : Int) := ⟨(1 + cell ns t % (m : Int)).toNat, by omega⟩
    walk_at "rd"
    rw [hz]
    refine ⟨RgOk.of_le (by omega) (by omega) (by omega) (by omega), fun l hl => ?_⟩
    rw [rgV_upto z _ rfl]
    refine ⟨Nat.zero_le _, fun p hp => ?_⟩
    walk_at "rd"
    refine ⟨by omega, by omega, for_it (itr (H1 := H))
      (fun i σ H' => ∃ (ls ps : List Int) (v : Option V), σ = [some (.ref a), some (.int (t : Nat)), some (.int (m : Nat)), some (.int (z : Nat)), some (.ref l), some (.ref p), v] ∧ Same H H' ∧
        H' l = some (.lst (ls.map V.int)) ∧ H' p = some (.lst (ps.map V.int)) ∧ ls.length + i = z ∧ ps.length = i ∧ (ps ++ ls).Perm (upto z))
      ⟨upto z, [], none, by rw [← hz]; rfl, by walk_at "same", by walk_at "hp", by walk_at "hp", by rw [upto_length]; rfl, rfl, List.Perm.refl _⟩ (fun i σ H' ⟨_, _, _, _, s, _⟩ => s) ?_ ?_⟩
    · rintro i σ H' hi ⟨ls, ps, v, rfl, s, eL, eP, n1, n2, perm⟩
      have npl : p ≠ l := (ne_of_none upd_same hp).symm
      have fl : H l = none := by walk_at "free"
      have fp : H p = none := by walk_at "free"
      walk_at "rd"
      rw [List.length_map]
      refine ⟨(by show (0 : Int) < _; omega), ?_⟩
      have w0 : 0 ≤ cell ns ((t : Int) + 1 + (0 + (i : Int))).toNat % (ls.length : Int) := Int.emod_nonneg _ (by omega)
      have w1 : cell ns ((t : Int) + 1 + (0 + (i : Int))).toNat % (ls.length : Int) < ls.length := Int.emod_lt_of_pos _ (by omega)
      have hj : (cell ns ((t : Int) + 1 + (0 + (i : Int))).toNat % (ls.length : Int)).toNat < ls.length := by omega
      refine ⟨l, _, _, _, _, rfl, rfl, eL, by omega, by omega, seqIndex_of w0 (by rw [List.length_map]; exact w1), setInt (List.getElem?_eq_getElem hj), ?_⟩
      refine ⟨p, _, _, rfl, rfl, by walk_at "hp", len_small' (by rw [List.length_map]; omega), ?_⟩
      refine ⟨ls.eraseIdx (cell ns ((t : Int) + 1 + (0 + (i : Int))).toNat % (ls.length : Int)).toNat, ps ++ [ls[(cell ns ((t : Int) + 1 + (0 + (i : Int))).toNat % (ls.length : Int)).toNat]'hj], _, rfl, by walk_at "same", ?_, ?_, ?_, ?_, ?_⟩
      · rw [upd_ne npl.symm, upd_same, erase_map]
      · rw [upd_same, List.map_append]
        rfl
      · rw [List.length_eraseIdx_of_lt hj]
        omega
      · rw [List.length_append, n2]
        rfl
      · refine List.Perm.trans ?_ perm
        rw [List.append_assoc]
        exact (erase_perm ls _ hj).append_left ps
    · rintro σ H' ⟨ls, ps, v, rfl, s, eL, eP, n1, n2, perm⟩
      have e0 : ls = [] := List.length_eq_zero_iff.mp (by omega)
      rw [e0, List.append_nil] at perm
      walk_at "rd"
      refine kQ ps ⟨by omega, by omega, ?_⟩ (by omega) p H' s (by walk_at "free") eP
      rw [n2, hz, Int.toNat_natCast]
      exact perm
theorem ok__law_sign_by {f : Addr} {fd : FuncData} (F : Fun K "_law_sign_by" "_law_sign_by" s__law_sign_by f fd) : FnOk P w K mg base (L2.CX P w) 1 f fd ["cell"] sp_sign := by
  refine F.okX sc__law_sign_by (fun vs H Q E h => ?_) (fun cdv A outer s H vs Q E hr h => ?_)
  · obtain ⟨z, rfl, _⟩ := h
    rfl
  · obtain ⟨z, rfl, kQ⟩ := h
    refine ⟨_, (pss_cons (ps_if (pt_cmpR op_eq (pe_op op_mod (pv 0) pe_int) pe_int (nomark _)) (pss_one (ps_ret (pe_ix ix_str pe_str (pe_op op_mod (pe_op op_fdiv (pv 0) pe_int) pe_int) (fun _ _ => rfl)))) pss_nil)
      (pss_cons (ps_set (i := 1) sc__law_sign_by.nd rfl (Or.inl rfl) pe_str)
      (pss_cons (ps_set (i := 1) sc__law_sign_by.nd rfl (Or.inl rfl) (pe_op op_add_str (pv 1) pe_str))
      (pss_one (ps_ret (pe_ix ix_str (pv 1) (pe_op op_mod (pe_op op_fdiv (pv 0) pe_int) pe_int) (fun _ _ => rfl))))))), ?_⟩
    walk_at "rd"
    refine ⟨rfl, ?_⟩
    walk_at "rd"
    refine iteB (fun _ => ?_) (fun _ => ?_)
    · walk_at "rd"
      have h0 := Int.emod_nonneg (z / 2) (show (16 : Int) ≠ 0 by decide)
      have h1 := Int.emod_lt_of_pos (z / 2) (show (0 : Int) < 16 by decide)
      have hl : (("0123456789 --\t\n1" : Str).cps.toList.length : Int) = 16 := by decide +kernel
      obtain ⟨c, hc⟩ := atI_some (xs := ("0123456789 --\t\n1" : Str).cps.toList) h0 (by omega)
      refine ⟨_, _, c, rfl, rfl, by decide +kernel, hc, ?_⟩
      exact kQ _ rfl
    · walk_at "rd"
      refine ⟨by decide +kernel, ?_⟩
      walk_at "rd"
      have h0 := Int.emod_nonneg (z / 2) (show (94 : Int) ≠ 0 by decide)
      have h1 := Int.emod_lt_of_pos (z / 2) (show (0 : Int) < 94 by decide)
      have hl : (((" !\"#$&'()*+,-./0123456789:;<=>?@ABCDEFGHIJKLMNOPQRSTUVWXYZ[\\]^_`" : Str) ++ ("abcdefghijklmnopqrstuvwxyz{|}~" : Str)).cps.toList.length : Int) = 94 := by decide +kernel
      obtain ⟨c, hc⟩ := atI_some (xs := ((" !\"#$&'()*+,-./0123456789:;<=>?@ABCDEFGHIJKLMNOPQRSTUVWXYZ[\\]^_`" : Str) ++ ("abcdefghijklmnopqrstuvwxyz{|}~" : Str)).cps.toList) h0 (by omega)
      refine ⟨_, _, c, rfl, rfl, by decide +kernel, hc, ?_⟩
      exact kQ _ rfl
theorem ok__law_spoiled {f : Addr} {fd : FuncData} (F : Fun K "_law_spoiled" "_law_spoiled" s__law_spoiled f fd) (G__law_sign_by : Cal P w K mg base "_law_sign_by" 1 ["cell"] sp_sign) : FnOk P w K mg base (L2.CX P w) 2 f fd ["text", "cell", "other"] sp_spoiled := by
  refine F.okX sc__law_spoiled (fun vs H Q E h => ?_) (fun cdv A outer s H vs Q E hr h => ?_)
  · obtain ⟨t, x, y, rfl, _⟩ := h
    rfl
  · obtain ⟨t, x, y, rfl, hl, kQ⟩ := h
    refine ⟨_, (pss_cons (ps_set (i := 3) sc__law_spoiled.nd rfl (Or.inl rfl) (pe_op op_mod (pe_op op_fdiv (pv 1) pe_int) (pe_op op_add (pe_callB call_len_str (by rfl) T.z_len PySem.boot_len (pa_cons (pv 0) pa_nil)) pe_int)))
      (pss_cons (ps_if (pt_cmpR op_eq (pe_op op_mod (pv 1) pe_int) pe_int (nomark _)) (pss_one (ps_ret (pe_op op_add_str (pe_slice sl_str (pv 0) po_none (po_some (pv 3))) (pe_slice sl_str (pv 0) (po_some (pe_op op_add (pv 3) pe_int)) po_none)))) pss_nil)
      (pss_cons (ps_if (pt_cmpR op_eq (pe_op op_mod (pv 1) pe_int) pe_int (nomark _)) (pss_one (ps_ret (pe_op op_add_str (pe_op op_add_str (pe_slice sl_str (pv 0) po_none (po_some (pv 3))) (pe_cal G__law_sign_by hr (by decide) takes0 rfl (pa_cons (pv 2) pa_nil))) (pe_slice sl_str (pv 0) (po_some (pe_op op_add (pv 3) pe_int)) po_none)))) pss_nil)
      (pss_one (ps_ret (pe_op op_add_str (pe_op op_add_str (pe_slice sl_str (pv 0) po_none (po_some (pv 3))) (pe_cal G__law_sign_by hr (by decide) takes0 rfl (pa_cons (pv 2) pa_nil))) (pe_slice sl_str (pv 0) (po_some (pv 3)) po_none))))))), ?_⟩
    walk_at "rd"
    have hz : t.length ≤ sizeLine := by rw [sizeLine_eq]; omega
    refine ⟨hz, ?_⟩
    walk_at "rd"
    refine ⟨(by show (0 : Int) < _; omega), ?_⟩
    obtain ⟨n, hn, hn2⟩ : ∃ n : Nat, x / 3 % ((t.length : Int) + 1) = (n : Int) ∧ n ≤ t.length := by
      have h0 := Int.emod_nonneg (x / 3) (show ((t.length : Int) + 1) ≠ 0 by omega)
      have h1 := Int.emod_lt_of_pos (x / 3) (show (0 : Int) < (t.length : Int) + 1 by omega)
      exact ⟨(x / 3 % ((t.length : Int) + 1)).toNat, by omega, by omega⟩
    walk_at "rd"
    dsimp only
    rw [hn]
    have e1 : ((n : Int) + 1) = ((n + 1 : Nat) : Int) := by omega
    have l1 := cutS_to t n
    have l2 : (cutS t (some ((n : Int) + 1)) none).length = t.length - (n + 1) := by rw [e1]; exact cutS_of t (n + 1)
    have l3 := cutS_of t n
    refine ⟨rfl, ?_⟩
    walk_at "rd"
    refine iteB (fun _ => ?_) (fun _ => ?_)
    · walk_at "rd"
      refine ⟨hz, ?_⟩
      walk_at "rd"
      refine ⟨hz, ?_⟩
      walk_at "rd"
      refine ⟨(by show (cutS t none (some (n : Int))).length + (cutS t (some ((n : Int) + 1)) none).length ≤ sizeLine; rw [sizeLine_eq, l1, l2]; omega), ?_⟩
      exact kQ _ (by show (cutS t none (some (n : Int)) ++ cutS t (some ((n : Int) + 1)) none).length ≤ _; rw [len_app, l1, l2]; omega)
    walk_at "rd"
    refine ⟨rfl, ?_⟩
    walk_at "rd"
    refine iteB (fun _ => ?_) (fun _ => ?_)
    · walk_at "rd"
      refine ⟨hz, ?_⟩
      walk_at "rd"
      intro w hw
      walk_at "rd"
      refine ⟨(by show (cutS t none (some (n : Int))).length + w.length ≤ sizeLine; rw [sizeLine_eq, l1, hw]; omega), ?_⟩
      walk_at "rd"
      refine ⟨hz, ?_⟩
      walk_at "rd"
      refine ⟨(by show (cutS t none (some (n : Int)) ++ w).length + (cutS t (some ((n : Int) + 1)) none).length ≤ sizeLine; rw [sizeLine_eq, len_app, l1, l2, hw]; omega), ?_⟩
      exact kQ _ (by show (cutS t none (some (n : Int)) ++ w ++ cutS t (some ((n : Int) + 1)) none).length ≤ _; rw [len_app, len_app, l1, l2, hw]; omega)
    · walk_at "rd"
      refine ⟨hz, ?_⟩
      walk_at "rd"
      intro w hw
      walk_at "rd"
      refine ⟨(by show (cutS t none (some (n : Int))).length + w.length ≤ sizeLine; rw [sizeLine_eq, l1, hw]; omega), ?_⟩
      walk_at "rd"
      refine ⟨hz, ?_⟩
      walk_at "rd"
      refine ⟨(by show (cutS t none (some (n : Int)) ++ w).length + (cutS t (some (n : Int)) none).length ≤ sizeLine; rw [sizeLine_eq, len_app, l1, l3, hw]; omega), ?_⟩
      exact kQ _ (by show (cutS t none (some (n : Int)) ++ w ++ cutS t (some (n : Int)) none).length ≤ _; rw [len_app, len_app, l1, l3, hw]; omega)
theorem ok__law_odd {f : Addr} {fd : FuncData} (F : Fun K "_law_odd" "_law_odd" s__law_odd f fd) : FnOk P w K mg base (L2.CX P w) 1 f fd ["cell"] sp_odd := by
  refine F.okX sc__law_odd (fun vs H Q E h => ?_) (fun cdv A outer s H vs Q E hr h => ?_)
  · obtain ⟨z, rfl, _⟩ := h
    rfl
  · obtain ⟨z, rfl, kQ⟩ := h
    refine ⟨_, (pss_cons (ps_set (i := 1) sc__law_odd.nd rfl (Or.inl rfl) (pe_lst (pa_cons pe_str (pa_cons pe_str (pa_cons pe_str (pa_cons pe_str (pa_cons pe_str (pa_cons pe_str (pa_cons pe_str (pa_cons pe_str (pa_cons pe_str (pa_cons pe_str (pa_cons pe_str (pa_cons pe_str (pa_cons pe_str (pa_cons pe_str (pa_cons pe_str (pa_cons pe_str (pa_cons pe_str pa_nil)))))))))))))))))))
      (pss_cons (ps_set (i := 1) sc__law_odd.nd rfl (Or.inl rfl) (pe_op op_cat (pv 1) (pe_lst (pa_cons pe_str (pa_cons pe_str (pa_cons pe_str (pa_cons pe_str (pa_cons pe_str (pa_cons pe_str pa_nil)))))))))
      (pss_one (ps_ret (pe_ix ix_list (pv 1) (pe_op op_mod (pv 0) pe_int) (fun _ _ => rfl)))))), ?_⟩
    refine ⟨(by show 17 ≤ sizeLine; decide), fun p hp => ?_⟩
    walk_at "rd"
    refine ⟨(by show 6 ≤ sizeLine; decide), fun q hq => ?_⟩
    walk_at "rd"
    refine ⟨_, _, _, _, rfl, rfl, by walk_at "hp", by walk_at "hp", (by show 23 ≤ sizeLine; decide), fun r hr' => ?_⟩
    walk_at "rd"
    have h0 := Int.emod_nonneg z (show (23 : Int) ≠ 0 by decide)
    have h1 := Int.emod_lt_of_pos z (show (0 : Int) < 23 by decide)
    obtain ⟨n, hn⟩ : ∃ n : Nat, z % 23 = (n : Int) := ⟨(z % 23).toNat, by omega⟩
    have hlt : n < (odds1 ++ odds2).length := by rw [odds_len.1]; omega
    refine ⟨r, (odds1 ++ odds2).map V.str, _, V.str ((odds1 ++ odds2)[n]), rfl, rfl, SqL.of upd_same, at_of (j := n) hn (by rw [List.getElem?_map, List.getElem?_eq_getElem hlt] <;> rfl), ?_⟩
    exact kQ _ (odds_len.2 _ (List.getElem_mem hlt)) _ (by walk_at "same")
theorem ok__law_number {f : Addr} {fd : FuncData} (F : Fun K "_law_number" "_law_number" s__law_number f fd) : FnOk P w K mg base (L2.CX P w) 1 f fd ["word"] sp_number := by
  refine F.okX sc__law_number (fun vs H Q E h => ?_) (fun cdv A outer s H vs Q E hr h => ?_)
  · obtain ⟨w, rfl, _⟩ := h
    rfl
  · obtain ⟨w, rfl, hl, kQ⟩ := h
    have hsz : (TL.tl w).length = w.length := Array.length_toList
    refine ⟨_, (pss_cons (ps_if (PW.pt (pw_or (pt_cmpR op_lt (pe_callB call_len_str (by rfl) T.z_len PySem.boot_len (pa_cons (pv 0) pa_nil)) pe_int (nomark _)) (pw_or (pt_cmpR op_gt (pe_callB call_len_str (by rfl) T.z_len PySem.boot_len (pa_cons (pv 0) pa_nil)) pe_int (nomark _)) (pw_or1 (pt_cmpR op_eq (pe_ix ix_str (pv 0) pe_int (fun _ _ => rfl)) pe_str (nomark _)))))) (pss_one (ps_ret pe_int)) pss_nil)
      (pss_cons (ps_for (passes_of rfl) rfl (pi_str (pv 0)) (pg_name (i := 1) sc__law_number.nd rfl (Or.inl rfl)) (pss_one (ps_if (pt_cmpR op_notIn_sign (pv 1) pe_str rfl) (pss_one (ps_ret pe_int)) pss_nil)))
      (pss_one (ps_ret (pe_callTy call_int_str (by rfl) T.z_int (by decide +kernel) (pa_cons (pv 0) pa_nil)))))), ?_⟩
    have kN : ¬ OkW w → ∀ H', Same H H' → Q (.int 0) H' := fun h H' s => by
      have := kQ H' s
      rw [numW_no h] at this
      exact this
    walk_at "rd"
    refine ⟨Nat.le_trans hl (by decide), ?_⟩
    walk_at "rd"
    by_cases c0 : w.length < 1
    · refine iteDT (by omega) (iteT ?_)
      exact kN (fun h => by have := h.1; omega) _ (Same.refl _)
    refine iteDF (by omega) ?_
    walk_at "rd"
    refine ⟨Nat.le_trans hl (by decide), ?_⟩
    walk_at "rd"
    by_cases c2 : 2 < w.length
    · refine iteDT (by omega) (iteT ?_)
      exact kN (fun h => by have := h.2.1; omega) _ (Same.refl _)
    refine iteDF (by omega) ?_
    walk_at "rd"
    obtain ⟨x, r, hx⟩ : ∃ x r, TL.tl w = x :: r := by
      cases e : TL.tl w with
      | nil =>
        rw [e] at hsz
        have : w.length = 0 := hsz.symm
        omega
      | cons x r => exact ⟨x, r, rfl⟩
    have hat : atI w.cps.toList (0 : Int) = some x := by
      show atI (TL.tl w) (0 : Int) = some x
      rw [hx]
      exact atI_nat (xs := x :: r) (j := 0) rfl
    refine ⟨w, 0, x, rfl, rfl, Nat.le_trans hl (by decide), hat, ?_⟩
    walk_at "rd"
    refine ⟨rfl, ?_⟩
    walk_at "rd"
    have t0 : TL.tl ("0" : Str) = [48] := by decide +kernel
    by_cases c3 : x = 48
    · have e : V.str ⟨#[x]⟩ = V.str "0" := by
        rw [tl_inj (x := ⟨#[x]⟩) (y := "0") (by rw [t0, c3])]
      refine iteDT e ?_
      exact kN (fun h => h.2.2.1 (by rw [hx, c3]; rfl)) _ (Same.refl _)
    have e : ¬ V.str ⟨#[x]⟩ = V.str "0" := fun e => c3 (by
      have := congrArg TL.tl (V.str.inj e)
      rw [t0] at this
      exact (List.cons.inj this).1)
    refine iteDF e ?_
    walk_at "rd"
    refine for_it (its w (H1 := H)) (fun i σ H' => ∃ v : Option V, σ = [some (.str w), v] ∧ H' = H ∧ ∀ j, j < i → 48 ≤ (TL.tl w).getD j 0 ∧ (TL.tl w).getD j 0 ≤ 57)
      ⟨none, rfl, rfl, fun j hj => absurd hj (Nat.not_lt_zero _)⟩ (fun i σ H' ⟨_, _, e, _⟩ => by rw [e]; exact Same.refl _) ?_ ?_
    · rintro i σ H' hi ⟨v, rfl, rfl, hall⟩
      walk_at "rd"
      generalize hcx : (TL.tl w).getD i 0 = cx
      by_cases c4 : 48 ≤ cx ∧ cx ≤ 57
      · have hm : cx ∈ ("0123456789" : Str).cps.toList := (nfig_mem cx).mpr c4
        rw [decide_eq_true hm]
        refine iteF ⟨_, rfl, rfl, fun j hj => ?_⟩
        by_cases e : j = i
        · rw [e, hcx]
          exact c4
        · exact hall j (by omega)
      · have hm : ¬ cx ∈ ("0123456789" : Str).cps.toList := fun h => c4 ((nfig_mem cx).mp h)
        rw [decide_eq_false hm]
        refine iteT ?_
        refine kN (fun h => c4 ?_) _ (Same.refl _)
        have hi2 : i < (TL.tl w).length := by omega
        have := h.2.2.2 _ (List.getElem_mem hi2)
        rw [List.getD_eq_getElem?_getD, List.getElem?_eq_getElem hi2] at hcx
        have e2 : (TL.tl w)[i] = cx := hcx
        rw [e2] at this
        exact this
    · rintro σ H' ⟨v, rfl, rfl, hall⟩
      have ok : OkW w := ⟨by omega, by omega, by
        rw [hx]
        intro e
        exact c3 (Option.some.inj e), fun y hy => by
        obtain ⟨j, hj, e⟩ := List.getElem_of_mem hy
        have := hall j (by omega)
        rw [List.getD_eq_getElem?_getD, List.getElem?_eq_getElem hj] at this
        rw [← e]
        exact this⟩
      walk_at "rd"
      refine ⟨w, _, rfl, wval_ok ok, by omega, ?_⟩
      have := kQ _ (Same.refl _)
      rw [numW_ok ok] at this
      exact this
theorem ok__law_due {f : Addr} {fd : FuncData} (F : Fun K "_law_due" "_law_due" s__law_due f fd) (G__law_number : Cal P w K mg base "_law_number" 1 ["word"] sp_number) : FnOk P w K mg base (L2.CX P w) 2 f fd ["text", "burnt"] sp_due := by
  refine F.okX sc__law_due (fun vs H Q E h => ?_) (fun cdv A outer s H vs Q E hr h => ?_)
  · obtain ⟨t, b, rfl, _⟩ := h
    rfl
  · obtain ⟨t, b, rfl, hlen, kQ, kN⟩ := h
    obtain ⟨w1, w2, w3⟩ := words_bound t
    have dl := dues_len b t
    refine ⟨_, (pss_cons (ps_set (i := 2) sc__law_due.nd rfl (Or.inl rfl) (pe_lst pa_nil))
      (pss_cons (ps_for (passes_of rfl) rfl (pi_list (pe_split (pv 0) pe_str)) (pg_name (i := 3) sc__law_due.nd rfl (Or.inl rfl)) (pss_one (ps_if (PW.pt (pw_and (pt_val (pv 1)) (pw_and1 (pt_cmpR op_eq (pe_slice sl_str (pv 3) po_none (po_some pe_int)) pe_str (nomark _))))) (pss_one (ps_expr (pe_bm PySem.F.plainAttrs_list PySem.F.slot_list_append PySem.F.type_list_append mt_append (pv 2) (pa_cons (pe_un un_neg (pe_cal G__law_number hr (by decide) takes0 rfl (pa_cons (pe_slice sl_str (pv 3) (po_some pe_int) po_none) pa_nil))) pa_nil)))) (pss_one (ps_expr (pe_bm PySem.F.plainAttrs_list PySem.F.slot_list_append PySem.F.type_list_append mt_append (pv 2) (pa_cons (pe_cal G__law_number hr (by decide) takes0 rfl (pa_cons (pv 3) pa_nil)) pa_nil)))))))
      (pss_cons (ps_if (PW.pt (pw_or (pt_cmpR op_gt (pe_callB call_len_seq (by rfl) T.z_len PySem.boot_len (pa_cons (pv 2) pa_nil)) pe_int (nomark _)) (pw_or1 (pt_cmpR (op_neD hr.units) (pe_callB cr_sorted (by rfl) T.z_sorted (by decide +kernel) (pa_cons (pe_lc (own := [("cake", 4)]) (g := gName 4) (tt := tYes) rfl sc__law_due.nd (pi_list (pv 2)) (blkOk_by (own := [("cake", 4)]) (N := ["text", "burnt", "pile", "word", "cake"]) (sc := defScope s__law_due) (by decide +kernel)) (fun _ _ _ _ _ => pg_name (i := 4) sc__law_due.nd rfl (Or.inl rfl)) (fun _ _ _ _ _ => pts_nil) (fun _ _ _ _ _ => (pe_callB call_abs (by rfl) T.z_abs (by decide +kernel) (pa_cons (pv 4) pa_nil)))) pa_nil)) (pe_listRg rfl rfl T.z_list (prg_2 rfl T.z_range pe_int (pe_op op_add (pe_callB call_len_seq (by rfl) T.z_len PySem.boot_len (pa_cons (pv 2) pa_nil)) pe_int))) (nomark _))))) (pss_one (ps_ret pe_non)) pss_nil)
      (pss_one (ps_ret (pv 2)))))), ?_⟩
    refine ⟨Nat.zero_le _, fun p hp => ?_⟩
    walk_at "rd"
    refine ⟨⟨_, rfl⟩, ?_⟩
    walk_at "rd"
    refine ⟨by decide +kernel, by rw [sizeLine_eq]; omega, fun l hlf => ?_⟩
    have fp : H p = none := hp
    have npl : p ≠ l := ne_of_none upd_same hlf
    walk_at "rd"
    refine ⟨⟨_, SqL.of upd_same⟩, for_list (fun i σ' H' => ∃ v3 : Option V, σ' = [some (.str t), some (.bl b), some (.ref p), v3, none] ∧ Same H H' ∧ H' l = some (.lst ((words t).map V.str)) ∧ H' p = some (.lst ((((words t).take i).map (dueW b)).map V.int)))
      ⟨none, rfl, same_new (same_new (Same.refl _) hp) hlf, upd_same, by rw [upd_ne npl, upd_same] <;> rfl⟩ (fun i σ' H' _ ⟨_, _, _, e, _⟩ => SqL.of e) ?_ ?_⟩
    · rintro i x σ' H' hx ⟨v3, rfl, s, el, ep⟩
      obtain ⟨w, hw, rfl⟩ : ∃ w, (words t)[i]? = some w ∧ x = V.str w := by
        rw [List.getElem?_map] at hx
        cases hc : (words t)[i]? with
        | none => rw [hc] at hx; cases hx
        | some w => rw [hc] at hx; exact ⟨w, rfl, (Option.some.inj hx).symm⟩
      have hm : w ∈ words t := List.mem_of_getElem? hw
      have hwl := w3 w hm
      have hwl2 := tailW_len w
      have htk : (words t).take (i + 1) = (words t).take i ++ [w] := by rw [List.take_succ, hw] <;> rfl
      have hlt : (((words t).take i).map (dueW b)).length ≤ 61 := by
        rw [List.length_map, List.length_take]
        omega
      have fin : ∀ (H2 : Hp) (z : Int), Same H' H2 → z = dueW b w → ∃ l2 xs y, V.ref p = V.ref l2 ∧ [V.int z] = [y] ∧ H2 l2 = some (.lst xs) ∧ xs.length < sizeLine ∧ (∃ v3 : Option V, [some (V.str t), some (.bl b), some (.ref p), some (.str w), none] = [some (.str t), some (.bl b), some (.ref p), v3, none] ∧ Same H (upd H2 l2 (.lst (xs ++ [y]))) ∧ upd H2 l2 (.lst (xs ++ [y])) l = some (.lst ((words t).map V.str)) ∧ upd H2 l2 (.lst (xs ++ [y])) p = some (.lst ((((words t).take (i + 1)).map (dueW b)).map V.int))) := fun H2 z s2 hz => by
        refine ⟨p, _, _, rfl, rfl, s2 _ _ ep, len_small' (by rw [List.length_map]; omega), _, rfl, same_mut (s.trans s2) fp, by rw [upd_ne npl.symm]; exact s2 _ _ el, ?_⟩
        rw [upd_same, htk, List.map_append, List.map_append, hz] <;> rfl
      walk_at "rd"
      cases b with
      | false =>
        refine iteF ?_
        walk_at "rd"
        refine ⟨by omega, fun H2 s2 => ?_⟩
        exact fin H2 _ s2 (dueW_pos (fun x => Bool.false_ne_true x.1)).symm
      | true =>
        refine iteT ?_
        walk_at "rd"
        refine ⟨by rw [sizeLine_eq]; omega, ?_⟩
        walk_at "rd"
        refine ⟨rfl, ?_⟩
        walk_at "rd"
        by_cases hn : isNeg w
        · refine iteDT ((neg_text w).mpr hn) ?_
          walk_at "rd"
          refine ⟨by rw [sizeLine_eq]; omega, ?_⟩
          walk_at "rd"
          refine ⟨(show (tailW w).length ≤ 600 by omega), fun H2 s2 => ?_⟩
          walk_at "rd"
          exact fin H2 _ s2 (dueW_neg hn).symm
        · refine iteDF (fun x => hn ((neg_text w).mp x)) ?_
          walk_at "rd"
          refine ⟨by omega, fun H2 s2 => ?_⟩
          exact fin H2 _ s2 (dueW_pos (fun x => hn x.2)).symm
    · rw [List.length_map]
      rintro σ' H' ⟨v3, rfl, s, el, ep⟩
      rw [List.take_length] at ep
      have ep : H' p = some (.lst ((dues b t).map V.int)) := ep
      walk_at "rd"
      by_cases h2 : 12 < (dues b t).length
      · refine iteDT (by rw [List.length_map]; omega) (iteT ?_)
        exact kN (fun g => by have := good_len g; omega) _ s
      refine iteDF (by rw [List.length_map]; omega) ?_
      walk_at "rd"
      refine ⟨⟨_, SqL.of ep⟩, fun D hD => lc_map (itl_ints (K := K) (ns := dues b t) (SqL.of ep)) hD (Same.refl _) (by omega) iabs (fun x H'' Q' _ s q => ?_) (fun H2 s2 e2 => ?_)⟩
      · walk_at "rd"
        exact q _ (Same.refl _)
      walk_at "rd"
      refine ⟨D, (dues b t).map iabs, rfl, SqL.of e2, by rw [List.length_map]; omega, fun ns' q hp hs nq => ?_⟩
      walk_at "rd"
      have s2' : Same H' (upd H2 q (.lst (ns'.map V.int))) := same_new s2 nq
      have ep2 := s2' _ _ ep
      refine ⟨RgOk.of_le (by omega) (by rw [List.length_map]; omega) (by omega) (by rw [List.length_map]; omega), fun q2 hq2 => ?_⟩
      rw [rgV_upto (dues b t).length _ (by rw [List.length_map])]
      refine ne1 (ns := ns') (ms := upto (dues b t).length) (SqL.of (upd_old hq2 upd_same)) (SqL.of upd_same) ?_
      by_cases e : ns' = upto (dues b t).length
      · refine ⟨_, rfl, ?_⟩
        rw [decide_eq_true e]
        refine iteF ?_
        walk_at "rd"
        exact kQ (good_of (by omega) (by omega) hp e) p _ (same_new (s.trans s2') hq2) fp (upd_old hq2 ep2)
      · refine ⟨_, rfl, ?_⟩
        rw [decide_eq_false e]
        refine iteT ?_
        refine kN (fun g => e (sorted_unique (hp.trans ?_) hs (upto_sorted _))) _ (same_new (s.trans s2') hq2)
        have := g.2.2
        rw [List.length_map] at this
        exact this
theorem ok_cake_of_plain {f : Addr} {fd : FuncData} (F : Fun K "cake_of_plain" "cake_of_plain" s_cake_of_plain f fd) : FnOk P w K mg base (L2.CX P w) 1 f fd ["word"] (sp_cop c.BadLine) := by
  refine F.okX sc_cake_of_plain (fun vs H Q E h => ?_) (fun cdv A outer s H vs Q E hr h => ?_)
  · obtain ⟨w, rfl, _⟩ := h
    rfl
  · obtain ⟨w, rfl, hl, kQ, kE⟩ := h
    obtain ⟨tF, m_FIGURES⟩ := T.m_FIGURES
    have hsz : (TL.tl w).length = w.length := Array.length_toList
    refine ⟨_, (pss_cons (ps_if (PW.pt (pw_or (pt_cmpR op_eq (pv 0) pe_str (nomark _)) (pw_or (pt_cmpR op_gt (pe_callB call_len_str (by rfl) T.z_len PySem.boot_len (pa_cons (pv 0) pa_nil)) pe_int (nomark _)) (pw_or1 (pt_cmpR op_eq (pe_ix ix_str (pv 0) pe_int (fun _ _ => rfl)) pe_str (nomark _)))))) (pss_one (ps_raise rfl tkOf (pmk_own PySem.F.excBase_ValueError T.e_BadLine.x T.e_BadLine.g T.e_BadLine.k (raises_own T.e_BadLine.b T.e_BadLine.t) rfl))) pss_nil)
      (pss_cons (ps_for (passes_of rfl) rfl (pi_str (pv 0)) (pg_name (i := 1) sc_cake_of_plain.nd rfl (Or.inl rfl)) (pss_one (ps_if (pt_cmpR op_notIn_sign (pv 1) (pe_glob (v := .str "0123456789") rfl m_FIGURES ⟨_, rfl⟩) rfl) (pss_one (ps_raise rfl tkOf (pmk_own PySem.F.excBase_ValueError T.e_BadLine.x T.e_BadLine.g T.e_BadLine.k (raises_own T.e_BadLine.b T.e_BadLine.t) rfl))) pss_nil)))
      (pss_one (ps_ret (pe_callTy call_int_str (by rfl) T.z_int (by decide +kernel) (pa_cons (pv 0) pa_nil)))))), ?_⟩
    walk_at "rd"
    refine ⟨rfl, ?_⟩
    walk_at "rd"
    by_cases c0 : w = ""
    · refine iteDT (by rw [c0]) (iteT ?_)
      exact kE fun h => by
        have := h.1
        rw [c0] at this
        exact absurd this (by decide +kernel)
    have hne : 1 ≤ w.length := by
      refine Nat.pos_of_ne_zero fun e => c0 (tl_inj ?_)
      have : TL.tl w = [] := List.length_eq_zero_iff.mp (by omega)
      rw [this]
      decide +kernel
    refine iteDF (fun e => c0 (V.str.inj e)) ?_
    walk_at "rd"
    refine ⟨Nat.le_trans hl (by decide), ?_⟩
    walk_at "rd"
    by_cases c2 : 2 < w.length
    · refine iteDT (by omega) (iteT ?_)
      exact kE fun h => by
        have := h.2.1
        omega
    refine iteDF (by omega) ?_
    walk_at "rd"
    obtain ⟨x, r, hx⟩ : ∃ x r, TL.tl w = x :: r := by
      cases e : TL.tl w with
      | nil =>
        rw [e] at hsz
        exact absurd hne (by rw [← hsz]; decide)
      | cons x r => exact ⟨x, r, rfl⟩
    have hat : atI w.cps.toList (0 : Int) = some x := by
      show atI (TL.tl w) (0 : Int) = some x
      rw [hx]
      exact atI_nat (xs := x :: r) (j := 0) rfl
    refine ⟨w, 0, x, rfl, rfl, Nat.le_trans hl (by decide), hat, ?_⟩
    walk_at "rd"
    refine ⟨rfl, ?_⟩
    walk_at "rd"
    have t0 : TL.tl ("0" : Str) = [48] := by decide +kernel
    by_cases c3 : x = 48
    · have e : V.str ⟨#[x]⟩ = V.str "0" := by
        rw [tl_inj (x := ⟨#[x]⟩) (y := "0") (by rw [t0, c3])]
      refine iteDT e ?_
      exact kE fun h => h.2.2.1 (by rw [hx, c3]; rfl)
    have e : ¬ V.str ⟨#[x]⟩ = V.str "0" := fun e => c3 (by
      have := congrArg TL.tl (V.str.inj e)
      rw [t0] at this
      exact (List.cons.inj this).1)
    refine iteDF e ?_
    walk_at "rd"
    refine for_it (its w (H1 := H)) (fun i σ H' => ∃ v : Option V, σ = [some (.str w), v] ∧ H' = H ∧ ∀ j, j < i → 48 ≤ (TL.tl w).getD j 0 ∧ (TL.tl w).getD j 0 ≤ 57)
      ⟨none, rfl, rfl, fun j hj => absurd hj (Nat.not_lt_zero _)⟩ (fun i σ H' ⟨_, _, e, _⟩ => by rw [e]; exact Same.refl _) ?_ ?_
    · rintro i σ H' hi ⟨v, rfl, rfl, hall⟩
      walk_at "rd"
      generalize hcx : (TL.tl w).getD i 0 = cx
      by_cases c4 : 48 ≤ cx ∧ cx ≤ 57
      · have hm : cx ∈ ("0123456789" : Str).cps.toList := (fig_mem cx).mpr c4
        rw [decide_eq_true hm]
        refine iteF ⟨_, rfl, rfl, fun j hj => ?_⟩
        by_cases e : j = i
        · rw [e, hcx]
          exact c4
        · exact hall j (by omega)
      · have hm : ¬ cx ∈ ("0123456789" : Str).cps.toList := fun h => c4 ((fig_mem cx).mp h)
        rw [decide_eq_false hm]
        refine iteT ?_
        refine kE fun h => c4 ?_
        have hi2 : i < (TL.tl w).length := by omega
        have := h.2.2.2 _ (List.getElem_mem hi2)
        rw [List.getD_eq_getElem?_getD, List.getElem?_eq_getElem hi2] at hcx
        have e2 : (TL.tl w)[i] = cx := hcx
        rw [e2] at this
        exact this
    · rintro σ H' ⟨v, rfl, rfl, hall⟩
      have ok : OkW w := ⟨hne, by omega, by
        rw [hx]
        intro e
        exact c3 (Option.some.inj e), fun y hy => by
        obtain ⟨j, hj, e⟩ := List.getElem_of_mem hy
        have := hall j (by omega)
        rw [List.getD_eq_getElem?_getD, List.getElem?_eq_getElem hj] at this
        rw [← e]
        exact this⟩
      walk_at "rd"
      refine ⟨w, _, rfl, wval_ok ok, by omega, ?_⟩
      exact kQ ok _ (Same.refl _)
theorem ok_cake_of {f : Addr} {fd : FuncData} (F : Fun K "cake_of" "cake_of" s_cake_of f fd) (G_cake_of_plain : Cal P w K mg base "cake_of_plain" 1 ["word"] (sp_cop c.BadLine)) : FnOk P w K mg base (L2.CX P w) 2 f fd ["word"] (sp_co c.BadLine) := by
  refine F.okX sc_cake_of (fun vs H Q E h => ?_) (fun cdv A outer s H vs Q E hr h => ?_)
  · obtain ⟨w, rfl, _⟩ := h
    rfl
  · obtain ⟨w, rfl, hl, kQ, kE⟩ := h
    have hl2 := tailW_len w
    refine ⟨_, (pss_cons (ps_if (pt_cmpR op_eq (pe_slice sl_str (pv 0) po_none (po_some pe_int)) pe_str (nomark _)) (pss_one (ps_ret (pe_un un_neg (pe_cal G_cake_of_plain hr (by decide) tkOf rfl (pa_cons (pe_slice sl_str (pv 0) (po_some pe_int) po_none) pa_nil))))) pss_nil)
      (pss_one (ps_ret (pe_cal G_cake_of_plain hr (by decide) tkOf rfl (pa_cons (pv 0) pa_nil))))), ?_⟩
    walk_at "rd"
    refine ⟨Nat.le_trans hl (by decide), ?_⟩
    walk_at "rd"
    refine ⟨rfl, ?_⟩
    walk_at "rd"
    by_cases hn : isNeg w
    · have e : V.str (cutS w none (some 1)) = V.str "-" := by rw [(neg_head w).mpr hn]
      refine iteDT e ?_
      walk_at "rd"
      refine ⟨Nat.le_trans hl (by decide), ?_⟩
      walk_at "rd"
      refine ⟨(show (tailW w).length ≤ 600 by omega), fun ok H1 s1 => ?_, fun no => kE fun h => ?_⟩
      · have okb : OkB w := by
          unfold OkB
          rw [if_pos hn]
          exact ok
        have := kQ okb H1 s1
        unfold bval at this
        rw [if_pos hn] at this
        walk_at "rd"
        exact this
      · unfold OkB at h
        rw [if_pos hn] at h
        exact no h
    · have e : ¬ V.str (cutS w none (some 1)) = V.str "-" := fun e => hn ((neg_head w).mp (V.str.inj e))
      refine iteDF e ?_
      walk_at "rd"
      refine ⟨hl, fun ok H1 s1 => ?_, fun no => kE fun h => ?_⟩
      · have okb : OkB w := by
          unfold OkB
          rw [if_neg hn]
          exact ok
        have := kQ okb H1 s1
        unfold bval at this
        rw [if_neg hn] at this
        exact this
      · unfold OkB at h
        rw [if_neg hn] at h
        exact no h
theorem ok_ask_pile {f : Addr} {fd : FuncData} (F : Fun K "ask_pile" "ask_pile" s_ask_pile f fd) : FnOk P w K mg base (L2.CX P w) 1 f fd ["pile"] (sp_ask_pile c.NoPile) := by
  refine F.okX sc_ask_pile (fun vs H Q E h => ?_) (fun cdv A outer s H vs Q E hr h => ?_)
  · obtain ⟨a, ns, rfl, _⟩ := h
    rfl
  · obtain ⟨a, ns, rfl, ha, h64, kQ, kE⟩ := h
    obtain ⟨tM, m_MOST⟩ := T.m_MOST
    refine ⟨_, (pss_one (ps_if (PW.pt (pw_or (pt_cmpR op_lt (pe_callB call_len_seq (by rfl) T.z_len PySem.boot_len (pa_cons (pv 0) pa_nil)) pe_int (nomark _)) (pw_or (pt_cmpR op_gt (pe_callB call_len_seq (by rfl) T.z_len PySem.boot_len (pa_cons (pv 0) pa_nil)) (pe_glob (v := .int 12) rfl m_MOST ⟨_, rfl⟩) (nomark _)) (pw_or1 (pt_cmpR (op_neD hr.units) (pe_callB cr_sorted (by rfl) T.z_sorted (by decide +kernel) (pa_cons (pv 0) pa_nil)) (pe_listRg rfl rfl T.z_list (prg_2 rfl T.z_range pe_int (pe_op op_add (pe_callB call_len_seq (by rfl) T.z_len PySem.boot_len (pa_cons (pv 0) pa_nil)) pe_int))) (nomark _)))))) (pss_one (ps_raise rfl tkOf (pmk_own PySem.F.excBase_ValueError T.e_NoPile.x T.e_NoPile.g T.e_NoPile.k (raises_own T.e_NoPile.b T.e_NoPile.t) rfl))) pss_nil)), ?_⟩
    walk_at "rd"
    by_cases h1 : ns.length < 1
    · refine iteDT (by rw [List.length_map]; omega) (iteT ?_)
      exact kE (fun h => absurd h.1 (by omega)) H (Same.refl H)
    refine iteDF (by rw [List.length_map]; omega) ?_
    walk_at "rd"
    by_cases h2 : 12 < ns.length
    · refine iteDT (by rw [List.length_map]; omega) (iteT ?_)
      exact kE (fun h => absurd h.2.1 (by omega)) H (Same.refl H)
    refine iteDF (by rw [List.length_map]; omega) ?_
    walk_at "rd"
    refine ⟨a, ns, rfl, by walk_at "sq", h64, fun ns' p hp hs np => ?_⟩
    walk_at "rd"
    refine ⟨RgOk.of_le (by omega) (by rw [List.length_map]; omega) (by omega) (by rw [List.length_map]; omega), fun q hq => ?_⟩
    rw [rgV_upto ns.length _ (by rw [List.length_map])]
    refine ne1 (ns := ns') (ms := upto ns.length) (by walk_at "sq") (by walk_at "sq") ?_
    by_cases e : ns' = upto ns.length
    · refine ⟨_, rfl, ?_⟩
      rw [decide_eq_true e]
      refine iteF ?_
      exact kQ ⟨by omega, by omega, by rw [← e]; exact hp.symm⟩ _ (by walk_at "same")
    · refine ⟨_, rfl, ?_⟩
      rw [decide_eq_false e]
      refine iteT ?_
      exact kE (fun h => e (sorted_unique (hp.trans h.2.2) hs (upto_sorted _))) _ (by walk_at "same")
theorem okN_ask_pile {f : Addr} {fd : FuncData} (F : Fun K "ask_pile" "ask_pile" s_ask_pile f fd) : FnOk P w K mg base (L2N.CX P w) 1 f fd ["pile"] (sp_ask_pile c.NoPile) := by
  refine F.okXN sc_ask_pile (fun vs H Q E h => ?_) (fun cdv A outer s H vs Q E hr h => ?_)
  · obtain ⟨a, ns, rfl, _⟩ := h
    rfl
  · obtain ⟨a, ns, rfl, ha, h64, kQ, kE⟩ := h
    obtain ⟨tM, m_MOST⟩ := T.m_MOST
    refine ⟨_, (pss_one (ps_if (PW.pt (pw_or (pt_cmpR op_lt (pe_callB call_len_seq (by rfl) T.z_len PySem.boot_len (pa_cons (pv 0) pa_nil)) pe_int (nomark _)) (pw_or (pt_cmpR op_gt (pe_callB call_len_seq (by rfl) T.z_len PySem.boot_len (pa_cons (pv 0) pa_nil)) (pe_glob (v := .int 12) rfl m_MOST ⟨_, rfl⟩) (nomark _)) (pw_or1 (pt_cmpR (op_neD hr.units) (pe_callB cr_sorted (by rfl) T.z_sorted (by decide +kernel) (pa_cons (pv 0) pa_nil)) (pe_listRg rfl rfl T.z_list (prg_2 rfl T.z_range pe_int (pe_op op_add (pe_callB call_len_seq (by rfl) T.z_len PySem.boot_len (pa_cons (pv 0) pa_nil)) pe_int))) (nomark _)))))) (pss_one (L2N.ps_raise rfl tkOfN (L2N.pmk_own PySem.F.excBase_ValueError T.e_NoPile.x T.e_NoPile.g T.e_NoPile.k (raises_own T.e_NoPile.b T.e_NoPile.t) rfl))) pss_nil)), ?_⟩
    walk_at "rd"
    by_cases h1 : ns.length < 1
    · refine iteDT (by rw [List.length_map]; omega) (iteT ?_)
      exact kE (fun h => absurd h.1 (by omega)) H (Same.refl H)
    refine iteDF (by rw [List.length_map]; omega) ?_
    walk_at "rd"
    by_cases h2 : 12 < ns.length
    · refine iteDT (by rw [List.length_map]; omega) (iteT ?_)
      exact kE (fun h => absurd h.2.1 (by omega)) H (Same.refl H)
    refine iteDF (by rw [List.length_map]; omega) ?_
    walk_at "rd"
    refine ⟨a, ns, rfl, by walk_at "sq", h64, fun ns' p hp hs np => ?_⟩
    walk_at "rd"
    refine ⟨RgOk.of_le (by omega) (by rw [List.length_map]; omega) (by omega) (by rw [List.length_map]; omega), fun q hq => ?_⟩
    rw [rgV_upto ns.length _ (by rw [List.length_map])]
    refine ne1 (ns := ns') (ms := upto ns.length) (by walk_at "sq") (by walk_at "sq") ?_
    by_cases e : ns' = upto ns.length
    · refine ⟨_, rfl, ?_⟩
      rw [decide_eq_true e]
      refine iteF ?_
      exact kQ ⟨by omega, by omega, by rw [← e]; exact hp.symm⟩ _ (by walk_at "same")
    · refine ⟨_, rfl, ?_⟩
      rw [decide_eq_false e]
      refine iteT ?_
      exact kE (fun h => e (sorted_unique (hp.trans h.2.2) hs (upto_sorted _))) _ (by walk_at "same")
theorem ok_ask_burnt {f : Addr} {fd : FuncData} (F : Fun K "ask_burnt" "ask_burnt" s_ask_burnt f fd) (G_ask_pile : Cal P w K mg base "ask_pile" 1 ["pile"] (sp_ask_pile c.NoPile)) : FnOk P w K mg base (L2.CX P w) 2 f fd ["pile"] (sp_ask_burnt c.NoPile) := by
  refine F.okX sc_ask_burnt (fun vs H Q E h => ?_) (fun cdv A outer s H vs Q E hr h => ?_)
  · obtain ⟨a, ns, rfl, _⟩ := h
    rfl
  · obtain ⟨a, ns, rfl, ha, h64, kQ, kE⟩ := h
    refine ⟨_, (pss_one (ps_expr (pe_cal G_ask_pile hr (by decide) tkOf rfl (pa_cons (pe_lc (own := [("cake", 1)]) (g := gName 1) (tt := tYes) rfl sc_ask_burnt.nd (pi_list (pv 0)) (blkOk_by (own := [("cake", 1)]) (N := ["pile", "cake"]) (sc := defScope s_ask_burnt) (by decide +kernel)) (fun _ _ _ _ _ => pg_name (i := 1) sc_ask_burnt.nd rfl (Or.inl rfl)) (fun _ _ _ _ _ => pts_nil) (fun _ _ _ _ _ => (pe_callB call_abs (by rfl) T.z_abs (by decide +kernel) (pa_cons (pv 1) pa_nil)))) pa_nil)))), ?_⟩
    walk_at "rd"
    refine ⟨⟨_, by walk_at "sq"⟩, fun D hD => lc_map (itl_ints (K := K) (ns := ns) (SqL.of ha)) hD (Same.refl _) (by omega) iabs (fun x H' Q' _ s q => ?_) (fun H2 s2 e2 => ?_)⟩
    · walk_at "rd"
      exact q _ (Same.refl _)
    · exact ⟨D, ns.map iabs, rfl, e2, by rw [List.length_map]; exact h64, fun h H3 s3 => kQ h H3 (s2.trans s3), fun h H3 s3 => kE h H3 (s2.trans s3)⟩
theorem okN_ask_burnt {f : Addr} {fd : FuncData} (F : Fun K "ask_burnt" "ask_burnt" s_ask_burnt f fd) (GN_ask_pile : CalN P w K mg base "ask_pile" 1 ["pile"] (sp_ask_pile c.NoPile)) : FnOk P w K mg base (L2N.CX P w) 2 f fd ["pile"] (sp_ask_burnt c.NoPile) := by
  refine F.okXN sc_ask_burnt (fun vs H Q E h => ?_) (fun cdv A outer s H vs Q E hr h => ?_)
  · obtain ⟨a, ns, rfl, _⟩ := h
    rfl
  · obtain ⟨a, ns, rfl, ha, h64, kQ, kE⟩ := h
    refine ⟨_, (pss_one (ps_expr (FL.pe_calN GN_ask_pile hr (by decide) tkOfN rfl (pa_cons (pe_lc (own := [("cake", 1)]) (g := gName 1) (tt := tYes) rfl sc_ask_burnt.nd (pi_list (pv 0)) (blkOk_by (own := [("cake", 1)]) (N := ["pile", "cake"]) (sc := defScope s_ask_burnt) (by decide +kernel)) (fun _ _ _ _ _ => pg_name (i := 1) sc_ask_burnt.nd rfl (Or.inl rfl)) (fun _ _ _ _ _ => pts_nil) (fun _ _ _ _ _ => (pe_callB call_abs (by rfl) T.z_abs (by decide +kernel) (pa_cons (pv 1) pa_nil)))) pa_nil)))), ?_⟩
    walk_at "rd"
    refine ⟨⟨_, by walk_at "sq"⟩, fun D hD => lc_map (itl_ints (K := K) (ns := ns) (SqL.of ha)) hD (Same.refl _) (by omega) iabs (fun x H' Q' _ s q => ?_) (fun H2 s2 e2 => ?_)⟩
    · walk_at "rd"
      exact q _ (Same.refl _)
    · exact ⟨D, ns.map iabs, rfl, e2, by rw [List.length_map]; exact h64, fun h H3 s3 => kQ h H3 (s2.trans s3), fun h H3 s3 => kE h H3 (s2.trans s3)⟩
theorem ok_burnt_read {f : Addr} {fd : FuncData} (F : Fun K "burnt_read" "burnt_read" s_burnt_read f fd) (G_cake_of : Cal P w K mg base "cake_of" 2 ["word"] (sp_co c.BadLine)) (GN_ask_burnt : CalN P w K mg base "ask_burnt" 2 ["pile"] (sp_ask_burnt c.NoPile)) : FnOk P w K mg base (L2.CX P w) 3 f fd ["text"] (sp_burnt_read c.BadLine) := by
  refine F.okX sc_burnt_read (fun vs H Q E h => ?_) (fun cdv A outer s H vs Q E hr h => ?_)
  · obtain ⟨t, rfl, _⟩ := h
    rfl
  · obtain ⟨t, rfl, hlen, kQ, kE⟩ := h
    obtain ⟨w1, w2, w3⟩ := words_bound t
    have dl := dues_len true t
    refine ⟨_, (pss_cons (FL.ps_setLcX (i := 1) rfl rfl tkOf (own := [("word", 2)]) (g := gName 2) (tt := tYes) rfl sc_burnt_read.nd rfl rfl (sw_true rfl rfl rfl (by decide +kernel)) (pi_list (pe_split (pv 0) pe_str)) (blkOk_by (own := [("word", 2)]) (N := ["text", "pile", "word"]) (sc := defScope s_burnt_read) (by decide +kernel)) (fun _ _ _ _ _ _ => pg_name (i := 2) sc_burnt_read.nd rfl (Or.inl rfl)) rfl (fun _ _ _ _ _ _ hx => (FL.pe_calP G_cake_of hr (by decide) hx rfl (pa_cons (pv 2) pa_nil))))
      (pss_cons (L2H.ps_try_onlyX rfl rfl ⟨rfl, by decide, .inl T.e_NoPile.g⟩ (L2H.passesAt_of rfl) tkOf (fun W pn xe tkb tkc _ => (pss_one (ps_expr (FL.pe_calN GN_ask_burnt hr (by decide) tkb rfl (pa_cons (pv 1) pa_nil))))) (fun a oe cls d pn hz hf tks hot => (pss_one (L2H.ps_raiseH hot tks (L2N.pmk_own PySem.F.excBase_ValueError T.e_BadLine.x T.e_BadLine.g T.e_BadLine.k (raises_own T.e_BadLine.b T.e_BadLine.t) rfl)))))
      (pss_one (ps_ret (pv 1))))), ?_⟩
    walk_at "rd"
    refine ⟨⟨_, rfl⟩, ?_⟩
    walk_at "rd"
    refine ⟨by decide +kernel, by rw [sizeLine_eq]; omega, fun l hlf => ?_⟩
    walk_at "rd"
    have hws : SqL K (upd H l (.lst ((words t).map V.str))) l ((words t).map V.str) := SqL.of upd_same
    have hlw : ((words t).map V.str).length = (words t).length := List.length_map _
    refine ⟨⟨_, hws⟩, fun D hD => lc_ok (itl hws) hD (Same.refl _) (by rw [hlw]; omega) (fun j => okX true ((words t).getD j (⟨#[]⟩ : Str))) (fun j => V.int (valX true ((words t).getD j (⟨#[]⟩ : Str)))) (fun j H' Q' hj s q => ?_) (fun hall H2 s2 e2 => ?_)⟩
    · obtain ⟨e, hm⟩ := strs_at hj
      rw [e]
      walk_at "rd"
      refine ⟨by have := w3 _ hm; omega, fun ok H3 s3 => q ok _ s3, fun no => ?_⟩
      exact kE (fun g => no (good_all g _ hm)) _ ((same_new (Same.refl _) hlf).trans s)
    have hok : ∀ w ∈ words t, okX true w := fun w hw => by
      obtain ⟨j, hj, e⟩ := List.getElem_of_mem hw
      have := hall j (by rw [hlw]; exact hj)
      rw [List.getD_eq_getElem?_getD, List.getElem?_eq_getElem hj] at this
      rw [← e]
      exact this
    have e2' : H2 D = some (.lst ((dues true t).map V.int)) := by
      rw [e2, hlw, map_vals, vals_eq hok]
    have fD : H D = none := (same_new (Same.refl _) hlf).free hD
    have sH := (same_new (Same.refl _) hlf).trans s2
    walk_at "rd"
    refine ⟨D, dues true t, rfl, e2', by omega, fun hp H3 s3 => ?_, fun hn H3 s3 => ?_⟩
    · walk_at "rd"
      exact kQ (good_burnt.mpr hp) D _ (sH.trans s3) fD (s3 _ _ e2')
    · refine ⟨true, T.xs_NoPile, fun _ a' ha' => ?_, fun q => nomatch q⟩
      walk_at "rd"
      exact kE (fun g => hn (good_burnt.mp g)) _ (sH.trans s3)
theorem ok_read {f : Addr} {fd : FuncData} (F : Fun K "read" "read" s_read f fd) (G_cake_of_plain : Cal P w K mg base "cake_of_plain" 1 ["word"] (sp_cop c.BadLine)) (GN_ask_pile : CalN P w K mg base "ask_pile" 1 ["pile"] (sp_ask_pile c.NoPile)) : FnOk P w K mg base (L2.CX P w) 2 f fd ["text"] (sp_read c.BadLine) := by
  refine F.okX sc_read (fun vs H Q E h => ?_) (fun cdv A outer s H vs Q E hr h => ?_)
  · obtain ⟨t, rfl, _⟩ := h
    rfl
  · obtain ⟨t, rfl, hlen, kQ, kE⟩ := h
    obtain ⟨w1, w2, w3⟩ := words_bound t
    have dl := dues_len false t
    refine ⟨_, (pss_cons (FL.ps_setLcX (i := 1) rfl rfl tkOf (own := [("word", 2)]) (g := gName 2) (tt := tYes) rfl sc_read.nd rfl rfl (sw_true rfl rfl rfl (by decide +kernel)) (pi_list (pe_split (pv 0) pe_str)) (blkOk_by (own := [("word", 2)]) (N := ["text", "pile", "word"]) (sc := defScope s_read) (by decide +kernel)) (fun _ _ _ _ _ _ => pg_name (i := 2) sc_read.nd rfl (Or.inl rfl)) rfl (fun _ _ _ _ _ _ hx => (FL.pe_calP G_cake_of_plain hr (by decide) hx rfl (pa_cons (pv 2) pa_nil))))
      (pss_cons (L2H.ps_try_onlyX rfl rfl ⟨rfl, by decide, .inl T.e_NoPile.g⟩ (L2H.passesAt_of rfl) tkOf (fun W pn xe tkb tkc _ => (pss_one (ps_expr (FL.pe_calN GN_ask_pile hr (by decide) tkb rfl (pa_cons (pv 1) pa_nil))))) (fun a oe cls d pn hz hf tks hot => (pss_one (L2H.ps_raiseH hot tks (L2N.pmk_own PySem.F.excBase_ValueError T.e_BadLine.x T.e_BadLine.g T.e_BadLine.k (raises_own T.e_BadLine.b T.e_BadLine.t) rfl)))))
      (pss_one (ps_ret (pv 1))))), ?_⟩
    walk_at "rd"
    refine ⟨⟨_, rfl⟩, ?_⟩
    walk_at "rd"
    refine ⟨by decide +kernel, by rw [sizeLine_eq]; omega, fun l hlf => ?_⟩
    walk_at "rd"
    have hws : SqL K (upd H l (.lst ((words t).map V.str))) l ((words t).map V.str) := SqL.of upd_same
    have hlw : ((words t).map V.str).length = (words t).length := List.length_map _
    refine ⟨⟨_, hws⟩, fun D hD => lc_ok (itl hws) hD (Same.refl _) (by rw [hlw]; omega) (fun j => okX false ((words t).getD j (⟨#[]⟩ : Str))) (fun j => V.int (valX false ((words t).getD j (⟨#[]⟩ : Str)))) (fun j H' Q' hj s q => ?_) (fun hall H2 s2 e2 => ?_)⟩
    · obtain ⟨e, hm⟩ := strs_at hj
      rw [e]
      walk_at "rd"
      refine ⟨by have := w3 _ hm; omega, fun ok H3 s3 => q ok _ s3, fun no => ?_⟩
      exact kE (fun g => no (good_all g _ hm)) _ ((same_new (Same.refl _) hlf).trans s)
    have hok : ∀ w ∈ words t, okX false w := fun w hw => by
      obtain ⟨j, hj, e⟩ := List.getElem_of_mem hw
      have := hall j (by rw [hlw]; exact hj)
      rw [List.getD_eq_getElem?_getD, List.getElem?_eq_getElem hj] at this
      rw [← e]
      exact this
    have e2' : H2 D = some (.lst ((dues false t).map V.int)) := by
      rw [e2, hlw, map_vals, vals_eq hok]
    have fD : H D = none := (same_new (Same.refl _) hlf).free hD
    have sH := (same_new (Same.refl _) hlf).trans s2
    walk_at "rd"
    refine ⟨D, dues false t, rfl, e2', by omega, fun hp H3 s3 => ?_, fun hn H3 s3 => ?_⟩
    · walk_at "rd"
      exact kQ ((good_plain hok).mpr hp) D _ (sH.trans s3) fD (s3 _ _ e2')
    · refine ⟨true, T.xs_NoPile, fun _ a' ha' => ?_, fun q => nomatch q⟩
      walk_at "rd"
      exact kE (fun g => hn ((good_plain hok).mp g)) _ (sH.trans s3)
theorem ok__law_which {f : Addr} {fd : FuncData} (F : Fun K "_law_which" "_law_which" s__law_which f fd) : FnE P w K mg base 1 f fd ["e"] (sp_which K c) := by
  refine fnE_of F sc__law_which (fun z vs H Q E h => ?_) (fun z cdv A outer s H vs Q hr h => ?_)
  · obtain ⟨D, b0, b1, b2, b3, b4, rfl, _⟩ := h
    rfl
  · obtain ⟨D, b0, b1, b2, b3, b4, rfl, hz, hf, hW, kQ⟩ := h
    refine ⟨_, (pss_cons (ps_set (i := 1) sc__law_which.nd rfl (Or.inl rfl) (pe_lst (pa_cons (pe_callB (call_isP hW.e (List.mem_singleton_self _) hz hf) (by rfl) T.z_isinstance (by decide +kernel) (pa_cons (pv 0) (pa_cons (pe_glob (v := .ref c.NoPile) rfl T.e_NoPile.g rfl) pa_nil))) (pa_cons (pe_callB (call_isP hW.e (List.mem_singleton_self _) hz hf) (by rfl) T.z_isinstance (by decide +kernel) (pa_cons (pv 0) (pa_cons (pe_glob (v := .ref c.NoTurn) rfl T.e_NoTurn.g rfl) pa_nil))) (pa_cons (pe_callB (call_isP hW.e (List.mem_singleton_self _) hz hf) (by rfl) T.z_isinstance (by decide +kernel) (pa_cons (pv 0) (pa_cons (pe_glob (v := .ref c.TooTall) rfl T.e_TooTall.g rfl) pa_nil))) (pa_cons (pe_callB (call_isP hW.e (List.mem_singleton_self _) hz hf) (by rfl) T.z_isinstance (by decide +kernel) (pa_cons (pv 0) (pa_cons (pe_glob (v := .ref c.NoBack) rfl T.e_NoBack.g rfl) pa_nil))) pa_nil))))))
      (pss_one (ps_ret (pe_op op_cat (pv 1) (pe_lst (pa_cons (pe_callB (call_isP hW.e (List.mem_singleton_self _) hz hf) (by rfl) T.z_isinstance (by decide +kernel) (pa_cons (pv 0) (pa_cons (pe_glob (v := .ref c.BadLine) rfl T.e_BadLine.g rfl) pa_nil))) (pa_cons (pe_callB (call_isP hW.e (List.mem_singleton_self _) hz hf) (by rfl) T.z_isinstance (by decide +kernel) (pa_cons (pv 0) (pa_cons (pe_bltn (v := .ty "ValueError") (u := .type "ValueError") rfl T.z_ValueError (by decide +kernel) rfl) pa_nil))) pa_nil))))))), ?_⟩
    walk_at "rd"
    refine ⟨_, _, _, rfl, fun u r => r, hW.k0, ?_⟩
    walk_at "rd"
    refine ⟨_, _, _, rfl, fun u r => r, hW.k1, ?_⟩
    walk_at "rd"
    refine ⟨_, _, _, rfl, fun u r => r, hW.k2, ?_⟩
    walk_at "rd"
    refine ⟨_, _, _, rfl, fun u r => r, hW.k3, ?_⟩
    walk_at "rd"
    refine ⟨(by show 4 ≤ sizeLine; decide), fun p hp => ?_⟩
    walk_at "rd"
    refine ⟨_, _, _, rfl, fun u r => r, hW.k4, ?_⟩
    walk_at "rd"
    refine ⟨_, _, _, rfl, fun u r => r, hW.kv, ?_⟩
    walk_at "rd"
    refine ⟨(by show 2 ≤ sizeLine; decide), fun q hq => ?_⟩
    refine ⟨_, _, _, _, rfl, rfl, by walk_at "hp", by walk_at "hp", (by show 6 ≤ sizeLine; decide), fun t ht => ?_⟩
    exact kQ t _ (by walk_at "same") (by walk_at "free") upd_same
theorem ok__law_told {f : Addr} {fd : FuncData} (F : Fun K "_law_told" "_law_told" s__law_told f fd) (G_burnt_read : Cal P w K mg base "burnt_read" 3 ["text"] (sp_burnt_read c.BadLine)) (G_read : Cal P w K mg base "read" 2 ["text"] (sp_read c.BadLine)) (G__law_which : CalE P w K mg base "_law_which" 1 ["e"] (sp_which K c)) : FnOk P w K mg base (L2.CX P w) 4 f fd ["text", "burnt"] sp_toldB := by
  refine F.okX sc__law_told (fun vs H Q E h => ?_) (fun cdv A outer s H vs Q E hr h => ?_)
  · obtain ⟨t, b, rfl, _⟩ := h
    rfl
  · obtain ⟨t, b, rfl, hlen, kQ, kN⟩ := h
    refine ⟨_, (pss_cons (ps_set (i := 2) sc__law_told.nd rfl (Or.inl rfl) pe_non)
      (pss_cons (ps_try_as (i := 3) rfl rfl sc__law_told.nd rfl rfl ⟨rfl, by decide, .inl T.e_FlipError.g⟩ takes0 (fun W pn xe tkb _ => (pss_one (ps_if (pt_val (pv 1)) (pss_one (ps_set (i := 2) sc__law_told.nd rfl (Or.inl rfl) (pe_cal G_burnt_read hr (by decide) tkb rfl (pa_cons (pv 0) pa_nil)))) (pss_one (ps_set (i := 2) sc__law_told.nd rfl (Or.inl rfl) (pe_cal G_read hr (by decide) tkb rfl (pa_cons (pv 0) pa_nil))))))) (fun a oe cls d pn hz hf => (pss_one (ps_set (i := 2) sc__law_told.nd rfl (Or.inl rfl) (pe_which G__law_which hr (by decide) hz hf rfl (pv 3))))))
      (pss_one (ps_ret (pv 2))))), ?_⟩
    walk_at "rd"
    cases b with
    | true =>
      refine iteT ?_
      walk_at "rd"
      refine ⟨hlen, fun g p H2 s2 np ep => ?_, fun g H2 s2 => ?_⟩
      · walk_at "rd"
        exact kQ g p H2 s2 np ep
      · refine ⟨true, T.w_BadLine.m, fun _ a' ha' => ?_, fun q => nomatch q⟩
        refine ⟨rfl, rfl, _, _, _, _, _, _, rfl, T.w_BadLine, fun q H3 s3 nq eq => ?_⟩
        walk_at "rd"
        exact kN g q _ (s2.trans s3) (s2.free nq) eq
    | false =>
      refine iteF ?_
      walk_at "rd"
      refine ⟨hlen, fun g p H2 s2 np ep => ?_, fun g H2 s2 => ?_⟩
      · walk_at "rd"
        exact kQ g p H2 s2 np ep
      · refine ⟨true, T.w_BadLine.m, fun _ a' ha' => ?_, fun q => nomatch q⟩
        refine ⟨rfl, rfl, _, _, _, _, _, _, rfl, T.w_BadLine, fun q H3 s3 nq eq => ?_⟩
        walk_at "rd"
        exact kN g q _ (s2.trans s3) (s2.free nq) eq
theorem ok_law {f : Addr} {fd : FuncData} (F : Fun K "law" "law" s_law f fd) (G__law_burnt : Cal P w K mg base "_law_burnt" 1 ["pile", "cell"] sp__law_burnt) (G__law_pile : Cal P w K mg base "_law_pile" 2 ["script", "at", "most"] (sp_pile K)) (G__law_spoiled : Cal P w K mg base "_law_spoiled" 2 ["text", "cell", "other"] sp_spoiled) (G__law_odd : Cal P w K mg base "_law_odd" 1 ["cell"] sp_odd) (G__law_due : Cal P w K mg base "_law_due" 2 ["text", "burnt"] sp_due) (G__law_told : Cal P w K mg base "_law_told" 4 ["text", "burnt"] sp_toldB) (G__law_cell_at : Cal P w K mg base "_law_cell_at" 1 ["script", "k"] (sp_cell K)) : FnOk P w K mg base (L2.CX P w) 5 f fd ["script"] (sp_law K) := by
  refine F.okX sc_law (fun vs H Q E h => ?_) (fun cdv A outer s H vs Q E hr h => ?_)
  · obtain ⟨a, ns, rfl, _⟩ := h
    rfl
  · obtain ⟨a, ns, rfl, hS, hlen, kQ⟩ := h
    refine ⟨_, (pss_cons (ps_set (i := 1) sc_law.nd rfl (Or.inl rfl) (pe_cal G__law_burnt hr (by decide) takes0 rfl (pa_cons (pe_cal G__law_pile hr (by decide) takes0 rfl (pa_cons (pv 0) (pa_cons pe_int (pa_cons pe_int pa_nil)))) (pa_cons (pe_op op_mul (pe_cal G__law_cell_at hr (by decide) takes0 rfl (pa_cons (pv 0) (pa_cons pe_int pa_nil))) (pe_op op_mod (pe_cal G__law_cell_at hr (by decide) takes0 rfl (pa_cons (pv 0) (pa_cons pe_int pa_nil))) pe_int)) pa_nil))))
      (pss_cons (ps_set (i := 2) sc_law.nd rfl (Or.inl rfl) (pe_join pe_str (pe_lc (own := [("cake", 3)]) (g := gName 3) (tt := tYes) rfl sc_law.nd (pi_list (pv 1)) (blkOk_by (own := [("cake", 3)]) (N := ["script", "pile", "text", "cake", "burnt", "due", "found"]) (sc := defScope s_law) (by decide +kernel)) (fun _ _ _ _ _ => pg_name (i := 3) sc_law.nd rfl (Or.inl rfl)) (fun _ _ _ _ _ => pts_nil) (fun _ _ _ _ _ => (pe_callTy call_str_int (by rfl) T.z_str (by decide +kernel) (pa_cons (pv 3) pa_nil))))))
      (Evl.pss_cut (ps_if (pt_cmpR op_gt (pe_op op_mod (pe_cal G__law_cell_at hr (by decide) takes0 rfl (pa_cons (pv 0) (pa_cons pe_int pa_nil))) pe_int) pe_int (nomark _)) (pss_one (ps_set (i := 2) sc_law.nd rfl (Or.inl rfl) (pe_cal G__law_spoiled hr (by decide) takes0 rfl (pa_cons (pv 2) (pa_cons (pe_cal G__law_cell_at hr (by decide) takes0 rfl (pa_cons (pv 0) (pa_cons pe_int pa_nil))) (pa_cons (pe_cal G__law_cell_at hr (by decide) takes0 rfl (pa_cons (pv 0) (pa_cons pe_int pa_nil))) pa_nil)))))) pss_nil)
      (Evl.pss_cut (ps_if (pt_cmpR op_eq (pe_op op_mod (pe_op op_fdiv (pe_cal G__law_cell_at hr (by decide) takes0 rfl (pa_cons (pv 0) (pa_cons pe_int pa_nil))) pe_int) pe_int) pe_int (nomark _)) (pss_one (ps_set (i := 2) sc_law.nd rfl (Or.inl rfl) (pe_cal G__law_odd hr (by decide) takes0 rfl (pa_cons (pe_cal G__law_cell_at hr (by decide) takes0 rfl (pa_cons (pv 0) (pa_cons pe_int pa_nil))) pa_nil)))) pss_nil)
      (pss_cons (ps_for (passes_of rfl) rfl (pi_list (pe_lst (pa_cons pe_bl (pa_cons pe_bl pa_nil)))) (pg_name (i := 4) sc_law.nd rfl (Or.inl rfl)) (pss_cons (ps_set (i := 5) sc_law.nd rfl (Or.inl rfl) (pe_cal G__law_due hr (by decide) takes0 rfl (pa_cons (pv 2) (pa_cons (pv 4) pa_nil))))
      (pss_cons (ps_set (i := 6) sc_law.nd rfl (Or.inl rfl) (pe_cal G__law_told hr (by decide) takes0 rfl (pa_cons (pv 2) (pa_cons (pv 4) pa_nil))))
      (pss_cons (ps_if (pt_cmp (pc_isN (pv 5)) rfl) (pss_one (ps_set (i := 5) sc_law.nd rfl (Or.inl rfl) (pe_lst (pa_cons pe_bl (pa_cons pe_bl (pa_cons pe_bl (pa_cons pe_bl (pa_cons pe_bl (pa_cons pe_bl pa_nil))))))))) pss_nil)
      (pss_one (ps_if (PW.pt (pw_or (pt_not (pt_val (pe_callB call_isi (by rfl) T.z_isinstance (by decide +kernel) (pa_cons (pv 6) (pa_cons (pe_bltn (v := .ty "list") (u := .type "list") rfl T.z_list (by decide +kernel) rfl) pa_nil))))) (pw_or1 (pt_cmpR (op_neD hr.units) (pv 6) (pv 5) (nomark _))))) (pss_one (ps_ret pe_bl)) pss_nil))))))
      (pss_one (ps_ret pe_bl))))))), ?_⟩
    walk_at "rd"
    refine ⟨a, ns, 6, 12, rfl, hS, by decide, by decide, fun pl hpl hpl12 p1 H1 s1 np1 e1 => ?_⟩
    have hS1 := s1.seq hS
    walk_at "rd"
    refine ⟨.inr ?_, ?_⟩
    · have h0 := Int.emod_nonneg (cell ns (Int.toNat 1)) (show (2 : Int) ≠ 0 by decide)
      have h1 := Int.emod_lt_of_pos (cell ns (Int.toNat 1)) (show (0 : Int) < 2 by decide)
      exact ⟨by omega, by omega⟩
    walk_at "rd"
    intro bl hbl p2 H2 s2 np2 e2
    have hB : IsBurnt bl := signed_burnt hpl hbl
    have hsm := burnt_small hB
    have hbl := burnt_len hB
    have htl := ptext_len hsm
    have hS2 := s2.seq hS1
    walk_at "rd"
    refine ⟨⟨_, rfl⟩, ?_⟩
    walk_at "rd"
    refine ⟨⟨_, SqL.of e2⟩, fun D hD => lc_yes (itl_ints (K := K) (ns := bl) (SqL.of e2)) hD (Same.refl _) (by omega) (fun j => V.str (istr (bl.getD j 0))) (fun j H' Q' hj s q => ?_) (fun H3 s3 e3 => ?_)⟩
    · have hm := burnt_mem hB (getD_in hj)
      refine ⟨_, rfl, ?_⟩
      refine ⟨_, rfl, small_log hm, ?_⟩
      exact q _ (Same.refl _)
    have el : (List.range bl.length).map (fun j => V.str (istr (bl.getD j 0))) = (bl.map istr).map V.str := by
      apply List.ext_getElem?
      intro i
      by_cases hi : i < bl.length
      · rw [List.getElem?_map, List.getElem?_range hi, List.getElem?_map, List.getElem?_map, List.getElem?_eq_getElem hi, Option.map_some, Option.map_some, Option.map_some, List.getD_eq_getElem?_getD, List.getElem?_eq_getElem hi]
        rfl
      · rw [List.getElem?_eq_none (by rw [List.length_map, List.length_range]; omega), List.getElem?_eq_none (by rw [List.length_map, List.length_map]; omega)]
    rw [el] at e3
    refine ⟨_, D, bl.map istr, rfl, rfl, .inl (SqL.of e3), ?_, ?_⟩
    · have h3 := sum_short ((bl.map istr).map (·.length)) (fun x hx => by
        obtain ⟨y, hy, rfl⟩ := List.mem_map.mp hx
        obtain ⟨z, hz, rfl⟩ := List.mem_map.mp hy
        exact istr_len (burnt_mem hB hz))
      rw [List.length_map, List.length_map] at h3
      rw [List.length_map]
      have : (Str.ofString " ").length = 1 := by decide +kernel
      rw [this]
      omega
    have hS3 := s3.seq hS2
    have ht0 : (ptext bl).length ≤ 48 := by omega
    show gName 2 (V.str (ptext bl)) _ H3 _
    generalize ptext bl = t0 at ht0
    clear el e3 e2 np2 s2 s1 np1 e1 hD s3 htl
    walk_at "rd"
    refine ⟨fun σ' H4 => ∃ t : Str, σ' = [some (.ref a), some (.ref p2), some (.str t), none, none, none, none] ∧ t.length ≤ 49 ∧ SqL K H4 a (ns.map V.int), ?_, ?_⟩
    · walk_at "rd"
      refine iteB (fun _ => ?_) (fun _ => ?_)
      · walk_at "rd"
        refine ⟨t0, _, _, rfl, by omega, fun w hw => ?_⟩
        exact ⟨w, rfl, by omega, hS3⟩
      · exact ⟨t0, rfl, by omega, hS3⟩
    rintro σ' H4 ⟨t1, rfl, ht1, hS4⟩
    walk_at "rd"
    refine ⟨fun σ' H5 => ∃ t : Str, σ' = [some (.ref a), some (.ref p2), some (.str t), none, none, none, none] ∧ t.length ≤ 60, ?_, ?_⟩
    · walk_at "rd"
      refine ⟨rfl, ?_⟩
      walk_at "rd"
      refine iteB (fun _ => ?_) (fun _ => ?_)
      · walk_at "rd"
        intro w hw H6 s6
        exact ⟨w, rfl, hw⟩
      · exact ⟨t1, rfl, by omega⟩
    rintro σ' H5 ⟨t, rfl, ht⟩
    walk_at "rd"
    refine ⟨(by show 2 ≤ sizeLine; decide), fun q hq => ?_⟩
    walk_at "rd"
    refine ⟨⟨_, SqL.of upd_same⟩, for_it (itl (K := K) (SqL.of upd_same)) (fun i σ' H' => ∃ (v4 v5 v6 : Option V), σ' = [some (.ref a), some (.ref p2), some (.str t), none, v4, v5, v6] ∧ Same (upd H5 q (.lst [V.bl false, V.bl true])) H') ⟨_, _, _, rfl, Same.refl _⟩ (fun i σ' H' ⟨_, _, _, _, s⟩ => s) ?_ ?_⟩
    · rintro i σ' H' hi ⟨v4, v5, v6, rfl, s⟩
      obtain ⟨b, hb⟩ : ∃ b, [V.bl false, V.bl true].getD i .non = V.bl b := by
        have hi : i < 2 := hi
        match i, hi with
        | 0, _ => exact ⟨false, rfl⟩
        | 1, _ => exact ⟨true, rfl⟩
      rw [hb]
      walk_at "rd"
      by_cases g : Good b t
      · refine ⟨t, b, rfl, ht, fun _ D H6 s6 nD eD => ?_, fun no => absurd g no⟩
        walk_at "rd"
        refine ⟨t, b, rfl, ht, fun _ F H7 s7 nF eF => ?_, fun no => absurd g no⟩
        walk_at "rd"
        refine ⟨.ref F, .ty "list", _, _, true, rfl, .ty _, .base (.lst eF), kit_ty (by decide +kernel), true, rfl, iteF ?_⟩
        walk_at "rd"
        refine ne1E (SqL.of eF) (SqL.of (s7 _ _ eD)) ?_
        walk_at "rd"
        exact ⟨_, _, _, rfl, s.trans (s6.trans s7)⟩
      · refine ⟨t, b, rfl, ht, fun x => absurd x g, fun _ H6 s6 => ?_⟩
        walk_at "rd"
        refine ⟨t, b, rfl, ht, fun x => absurd x g, fun _ F H7 s7 nF eF => ?_⟩
        walk_at "rd"
        refine iteT ?_
        walk_at "rd"
        refine ⟨(by show 6 ≤ sizeLine; decide), fun D hD => ?_⟩
        have eF2 := upd_old (o := .lst [V.bl false, V.bl false, V.bl false, V.bl false, V.bl true, V.bl true]) hD eF
        walk_at "rd"
        refine ⟨.ref F, .ty "list", _, _, true, rfl, .ty _, .base (.lst eF2), kit_ty (by decide +kernel), true, rfl, iteF ?_⟩
        walk_at "rd"
        refine neB (ns := [false, false, false, false, true, true]) (ms := [false, false, false, false, true, true]) (SqL.of eF2) (SqL.of upd_same) ?_
        rw [decide_eq_true rfl]
        walk_at "rd"
        exact ⟨_, _, _, rfl, same_new (s.trans (s6.trans s7)) hD⟩
    · rintro σ' H' _
      walk_at "rd"
      exact kQ _
end
theorem all_mk {l : PySem.W.OpenLaw} {w : World} {K : PySem.W.Frag} {h : Heap} {mg : Str → Option Value} {fa : Addr}
    {C_FlipError : Addr}
    {C_NoPile : Addr}
    {C_NoTurn : Addr}
    {C_TooTall : Addr}
    {C_NoBack : Addr}
    {C_BadLine : Addr}
    {f__law_burnt : Addr} {od__law_burnt an__law_burnt : Option Addr} {sl__law_burnt : Array (Option Value)} {oc__law_burnt kV__law_burnt dc__law_burnt pm__law_burnt cd__law_burnt ct__law_burnt : Value}
    {f__law_cell_at : Addr} {od__law_cell_at an__law_cell_at : Option Addr} {sl__law_cell_at : Array (Option Value)} {oc__law_cell_at kV__law_cell_at dc__law_cell_at pm__law_cell_at cd__law_cell_at ct__law_cell_at : Value}
    {f__law_pile : Addr} {od__law_pile an__law_pile : Option Addr} {sl__law_pile : Array (Option Value)} {oc__law_pile kV__law_pile dc__law_pile pm__law_pile cd__law_pile ct__law_pile : Value}
    {f__law_sign_by : Addr} {od__law_sign_by an__law_sign_by : Option Addr} {sl__law_sign_by : Array (Option Value)} {oc__law_sign_by kV__law_sign_by dc__law_sign_by pm__law_sign_by cd__law_sign_by ct__law_sign_by : Value}
    {f__law_spoiled : Addr} {od__law_spoiled an__law_spoiled : Option Addr} {sl__law_spoiled : Array (Option Value)} {oc__law_spoiled kV__law_spoiled dc__law_spoiled pm__law_spoiled cd__law_spoiled ct__law_spoiled : Value}
    {f__law_odd : Addr} {od__law_odd an__law_odd : Option Addr} {sl__law_odd : Array (Option Value)} {oc__law_odd kV__law_odd dc__law_odd pm__law_odd cd__law_odd ct__law_odd : Value}
    {f__law_number : Addr} {od__law_number an__law_number : Option Addr} {sl__law_number : Array (Option Value)} {oc__law_number kV__law_number dc__law_number pm__law_number cd__law_number ct__law_number : Value}
    {f__law_due : Addr} {od__law_due an__law_due : Option Addr} {sl__law_due : Array (Option Value)} {oc__law_due kV__law_due dc__law_due pm__law_due cd__law_due ct__law_due : Value}
    {f_cake_of_plain : Addr} {od_cake_of_plain an_cake_of_plain : Option Addr} {sl_cake_of_plain : Array (Option Value)} {oc_cake_of_plain kV_cake_of_plain dc_cake_of_plain pm_cake_of_plain cd_cake_of_plain ct_cake_of_plain : Value}
    {f_cake_of : Addr} {od_cake_of an_cake_of : Option Addr} {sl_cake_of : Array (Option Value)} {oc_cake_of kV_cake_of dc_cake_of pm_cake_of cd_cake_of ct_cake_of : Value}
    {f_ask_pile : Addr} {od_ask_pile an_ask_pile : Option Addr} {sl_ask_pile : Array (Option Value)} {oc_ask_pile kV_ask_pile dc_ask_pile pm_ask_pile cd_ask_pile ct_ask_pile : Value}
    {f_ask_burnt : Addr} {od_ask_burnt an_ask_burnt : Option Addr} {sl_ask_burnt : Array (Option Value)} {oc_ask_burnt kV_ask_burnt dc_ask_burnt pm_ask_burnt cd_ask_burnt ct_ask_burnt : Value}
    {f_burnt_read : Addr} {od_burnt_read an_burnt_read : Option Addr} {sl_burnt_read : Array (Option Value)} {oc_burnt_read kV_burnt_read dc_burnt_read pm_burnt_read cd_burnt_read ct_burnt_read : Value}
    {f_read : Addr} {od_read an_read : Option Addr} {sl_read : Array (Option Value)} {oc_read kV_read dc_read pm_read cd_read ct_read : Value}
    {f__law_which : Addr} {od__law_which an__law_which : Option Addr} {sl__law_which : Array (Option Value)} {oc__law_which kV__law_which dc__law_which pm__law_which cd__law_which ct__law_which : Value}
    {f__law_told : Addr} {od__law_told an__law_told : Option Addr} {sl__law_told : Array (Option Value)} {oc__law_told kV__law_told dc__law_told pm__law_told cd__law_told ct__law_told : Value}
    {f_law : Addr} {od_law an_law : Option Addr} {sl_law : Array (Option Value)} {oc_law kV_law dc_law pm_law cd_law ct_law : Value}
    {t_MOST : Tok}
    {t_FIGURES : Tok}
    (X : K.In h) (G : h.Ns mainGlobals mg) (hfa : mg "law" = some (.ref fa))
    (a__law_burnt : PySem.W.nsIn K mainGlobals "_law_burnt" = some (some (.ref f__law_burnt)))
    (l__law_burnt : K.lookup f__law_burnt = some ⟨oc__law_burnt, od__law_burnt, .func (PySem.W.fnOf "_law_burnt" "_law_burnt" (defArgs s__law_burnt) (defBody s__law_burnt) (defScope s__law_burnt) .none kV__law_burnt dc__law_burnt pm__law_burnt an__law_burnt cd__law_burnt ct__law_burnt), sl__law_burnt⟩)
    (c__law_burnt : PySem.W.codeIn K cd__law_burnt "_law_burnt" = true)
    (k__law_burnt : PySem.W.keepIn K (.ref f__law_burnt) = true)
    (a__law_cell_at : PySem.W.nsIn K mainGlobals "_law_cell_at" = some (some (.ref f__law_cell_at)))
    (l__law_cell_at : K.lookup f__law_cell_at = some ⟨oc__law_cell_at, od__law_cell_at, .func (PySem.W.fnOf "_law_cell_at" "_law_cell_at" (defArgs s__law_cell_at) (defBody s__law_cell_at) (defScope s__law_cell_at) .none kV__law_cell_at dc__law_cell_at pm__law_cell_at an__law_cell_at cd__law_cell_at ct__law_cell_at), sl__law_cell_at⟩)
    (c__law_cell_at : PySem.W.codeIn K cd__law_cell_at "_law_cell_at" = true)
    (k__law_cell_at : PySem.W.keepIn K (.ref f__law_cell_at) = true)
    (a__law_pile : PySem.W.nsIn K mainGlobals "_law_pile" = some (some (.ref f__law_pile)))
    (l__law_pile : K.lookup f__law_pile = some ⟨oc__law_pile, od__law_pile, .func (PySem.W.fnOf "_law_pile" "_law_pile" (defArgs s__law_pile) (defBody s__law_pile) (defScope s__law_pile) .none kV__law_pile dc__law_pile pm__law_pile an__law_pile cd__law_pile ct__law_pile), sl__law_pile⟩)
    (c__law_pile : PySem.W.codeIn K cd__law_pile "_law_pile" = true)
    (k__law_pile : PySem.W.keepIn K (.ref f__law_pile) = true)
    (a__law_sign_by : PySem.W.nsIn K mainGlobals "_law_sign_by" = some (some (.ref f__law_sign_by)))
    (l__law_sign_by : K.lookup f__law_sign_by = some ⟨oc__law_sign_by, od__law_sign_by, .func (PySem.W.fnOf "_law_sign_by" "_law_sign_by" (defArgs s__law_sign_by) (defBody s__law_sign_by) (defScope s__law_sign_by) .none kV__law_sign_by dc__law_sign_by pm__law_sign_by an__law_sign_by cd__law_sign_by ct__law_sign_by), sl__law_sign_by⟩)
    (c__law_sign_by : PySem.W.codeIn K cd__law_sign_by "_law_sign_by" = true)
    (k__law_sign_by : PySem.W.keepIn K (.ref f__law_sign_by) = true)
    (a__law_spoiled : PySem.W.nsIn K mainGlobals "_law_spoiled" = some (some (.ref f__law_spoiled)))
    (l__law_spoiled : K.lookup f__law_spoiled = some ⟨oc__law_spoiled, od__law_spoiled, .func (PySem.W.fnOf "_law_spoiled" "_law_spoiled" (defArgs s__law_spoiled) (defBody s__law_spoiled) (defScope s__law_spoiled) .none kV__law_spoiled dc__law_spoiled pm__law_spoiled an__law_spoiled cd__law_spoiled ct__law_spoiled), sl__law_spoiled⟩)
    (c__law_spoiled : PySem.W.codeIn K cd__law_spoiled "_law_spoiled" = true)
    (k__law_spoiled : PySem.W.keepIn K (.ref f__law_spoiled) = true)
    (a__law_odd : PySem.W.nsIn K mainGlobals "_law_odd" = some (some (.ref f__law_odd)))
    (l__law_odd : K.lookup f__law_odd = some ⟨oc__law_odd, od__law_odd, .func (PySem.W.fnOf "_law_odd" "_law_odd" (defArgs s__law_odd) (defBody s__law_odd) (defScope s__law_odd) .none kV__law_odd dc__law_odd pm__law_odd an__law_odd cd__law_odd ct__law_odd), sl__law_odd⟩)
    (c__law_odd : PySem.W.codeIn K cd__law_odd "_law_odd" = true)
    (k__law_odd : PySem.W.keepIn K (.ref f__law_odd) = true)
    (a__law_number : PySem.W.nsIn K mainGlobals "_law_number" = some (some (.ref f__law_number)))
    (l__law_number : K.lookup f__law_number = some ⟨oc__law_number, od__law_number, .func (PySem.W.fnOf "_law_number" "_law_number" (defArgs s__law_number) (defBody s__law_number) (defScope s__law_number) .none kV__law_number dc__law_number pm__law_number an__law_number cd__law_number ct__law_number), sl__law_number⟩)
    (c__law_number : PySem.W.codeIn K cd__law_number "_law_number" = true)
    (k__law_number : PySem.W.keepIn K (.ref f__law_number) = true)
    (a__law_due : PySem.W.nsIn K mainGlobals "_law_due" = some (some (.ref f__law_due)))
    (l__law_due : K.lookup f__law_due = some ⟨oc__law_due, od__law_due, .func (PySem.W.fnOf "_law_due" "_law_due" (defArgs s__law_due) (defBody s__law_due) (defScope s__law_due) .none kV__law_due dc__law_due pm__law_due an__law_due cd__law_due ct__law_due), sl__law_due⟩)
    (c__law_due : PySem.W.codeIn K cd__law_due "_law_due" = true)
    (k__law_due : PySem.W.keepIn K (.ref f__law_due) = true)
    (a_cake_of_plain : PySem.W.nsIn K mainGlobals "cake_of_plain" = some (some (.ref f_cake_of_plain)))
    (l_cake_of_plain : K.lookup f_cake_of_plain = some ⟨oc_cake_of_plain, od_cake_of_plain, .func (PySem.W.fnOf "cake_of_plain" "cake_of_plain" (defArgs s_cake_of_plain) (defBody s_cake_of_plain) (defScope s_cake_of_plain) .none kV_cake_of_plain dc_cake_of_plain pm_cake_of_plain an_cake_of_plain cd_cake_of_plain ct_cake_of_plain), sl_cake_of_plain⟩)
    (c_cake_of_plain : PySem.W.codeIn K cd_cake_of_plain "cake_of_plain" = true)
    (k_cake_of_plain : PySem.W.keepIn K (.ref f_cake_of_plain) = true)
    (a_cake_of : PySem.W.nsIn K mainGlobals "cake_of" = some (some (.ref f_cake_of)))
    (l_cake_of : K.lookup f_cake_of = some ⟨oc_cake_of, od_cake_of, .func (PySem.W.fnOf "cake_of" "cake_of" (defArgs s_cake_of) (defBody s_cake_of) (defScope s_cake_of) .none kV_cake_of dc_cake_of pm_cake_of an_cake_of cd_cake_of ct_cake_of), sl_cake_of⟩)
    (c_cake_of : PySem.W.codeIn K cd_cake_of "cake_of" = true)
    (k_cake_of : PySem.W.keepIn K (.ref f_cake_of) = true)
    (a_ask_pile : PySem.W.nsIn K mainGlobals "ask_pile" = some (some (.ref f_ask_pile)))
    (l_ask_pile : K.lookup f_ask_pile = some ⟨oc_ask_pile, od_ask_pile, .func (PySem.W.fnOf "ask_pile" "ask_pile" (defArgs s_ask_pile) (defBody s_ask_pile) (defScope s_ask_pile) .none kV_ask_pile dc_ask_pile pm_ask_pile an_ask_pile cd_ask_pile ct_ask_pile), sl_ask_pile⟩)
    (c_ask_pile : PySem.W.codeIn K cd_ask_pile "ask_pile" = true)
    (k_ask_pile : PySem.W.keepIn K (.ref f_ask_pile) = true)
    (a_ask_burnt : PySem.W.nsIn K mainGlobals "ask_burnt" = some (some (.ref f_ask_burnt)))
    (l_ask_burnt : K.lookup f_ask_burnt = some ⟨oc_ask_burnt, od_ask_burnt, .func (PySem.W.fnOf "ask_burnt" "ask_burnt" (defArgs s_ask_burnt) (defBody s_ask_burnt) (defScope s_ask_burnt) .none kV_ask_burnt dc_ask_burnt pm_ask_burnt an_ask_burnt cd_ask_burnt ct_ask_burnt), sl_ask_burnt⟩)
    (c_ask_burnt : PySem.W.codeIn K cd_ask_burnt "ask_burnt" = true)
    (k_ask_burnt : PySem.W.keepIn K (.ref f_ask_burnt) = true)
    (a_burnt_read : PySem.W.nsIn K mainGlobals "burnt_read" = some (some (.ref f_burnt_read)))
    (l_burnt_read : K.lookup f_burnt_read = some ⟨oc_burnt_read, od_burnt_read, .func (PySem.W.fnOf "burnt_read" "burnt_read" (defArgs s_burnt_read) (defBody s_burnt_read) (defScope s_burnt_read) .none kV_burnt_read dc_burnt_read pm_burnt_read an_burnt_read cd_burnt_read ct_burnt_read), sl_burnt_read⟩)
    (c_burnt_read : PySem.W.codeIn K cd_burnt_read "burnt_read" = true)
    (k_burnt_read : PySem.W.keepIn K (.ref f_burnt_read) = true)
    (a_read : PySem.W.nsIn K mainGlobals "read" = some (some (.ref f_read)))
    (l_read : K.lookup f_read = some ⟨oc_read, od_read, .func (PySem.W.fnOf "read" "read" (defArgs s_read) (defBody s_read) (defScope s_read) .none kV_read dc_read pm_read an_read cd_read ct_read), sl_read⟩)
    (c_read : PySem.W.codeIn K cd_read "read" = true)
    (k_read : PySem.W.keepIn K (.ref f_read) = true)
    (a__law_which : PySem.W.nsIn K mainGlobals "_law_which" = some (some (.ref f__law_which)))
    (l__law_which : K.lookup f__law_which = some ⟨oc__law_which, od__law_which, .func (PySem.W.fnOf "_law_which" "_law_which" (defArgs s__law_which) (defBody s__law_which) (defScope s__law_which) .none kV__law_which dc__law_which pm__law_which an__law_which cd__law_which ct__law_which), sl__law_which⟩)
    (c__law_which : PySem.W.codeIn K cd__law_which "_law_which" = true)
    (k__law_which : PySem.W.keepIn K (.ref f__law_which) = true)
    (a__law_told : PySem.W.nsIn K mainGlobals "_law_told" = some (some (.ref f__law_told)))
    (l__law_told : K.lookup f__law_told = some ⟨oc__law_told, od__law_told, .func (PySem.W.fnOf "_law_told" "_law_told" (defArgs s__law_told) (defBody s__law_told) (defScope s__law_told) .none kV__law_told dc__law_told pm__law_told an__law_told cd__law_told ct__law_told), sl__law_told⟩)
    (c__law_told : PySem.W.codeIn K cd__law_told "_law_told" = true)
    (k__law_told : PySem.W.keepIn K (.ref f__law_told) = true)
    (a_law : PySem.W.nsIn K mainGlobals "law" = some (some (.ref f_law)))
    (l_law : K.lookup f_law = some ⟨oc_law, od_law, .func (PySem.W.fnOf "law" "law" (defArgs s_law) (defBody s_law) (defScope s_law) .none kV_law dc_law pm_law an_law cd_law ct_law), sl_law⟩)
    (c_law : PySem.W.codeIn K cd_law "law" = true)
    (k_law : PySem.W.keepIn K (.ref f_law) = true)
    (z_ValueError : PySem.W.nsIn K mainGlobals "ValueError" = some none)
    (z_abs : PySem.W.nsIn K mainGlobals "abs" = some none)
    (z_int : PySem.W.nsIn K mainGlobals "int" = some none)
    (z_isinstance : PySem.W.nsIn K mainGlobals "isinstance" = some none)
    (z_len : PySem.W.nsIn K mainGlobals "len" = some none)
    (z_list : PySem.W.nsIn K mainGlobals "list" = some none)
    (z_range : PySem.W.nsIn K mainGlobals "range" = some none)
    (z_sorted : PySem.W.nsIn K mainGlobals "sorted" = some none)
    (z_str : PySem.W.nsIn K mainGlobals "str" = some none)
    (m_MOST : PySem.W.nsIn K mainGlobals "MOST" = some (some (.int 12 t_MOST)))
    (m_FIGURES : PySem.W.nsIn K mainGlobals "FIGURES" = some (some (.str "0123456789" t_FIGURES)))
    (g_FlipError : PySem.W.nsIn K mainGlobals "FlipError" = some (some (.ref C_FlipError)))
    (x_FlipError : PySem.W.excIn K C_FlipError [.type "ValueError", .type "Exception", .type "BaseException", .type "object"] "ValueError.__new__" = true)
    (kk_FlipError : PySem.W.keepIn K (.ref C_FlipError) = true)
    (bb_FlipError : PySem.W.subIn K (.ref C_FlipError) (.type "BaseException") = some true)
    (tt_FlipError : PySem.W.typeIn K (.ref C_FlipError) = some (.type "type"))
    (g_NoPile : PySem.W.nsIn K mainGlobals "NoPile" = some (some (.ref C_NoPile)))
    (x_NoPile : PySem.W.excIn K C_NoPile [.type "ValueError", .type "Exception", .type "BaseException", .type "object"] "ValueError.__new__" = true)
    (kk_NoPile : PySem.W.keepIn K (.ref C_NoPile) = true)
    (bb_NoPile : PySem.W.subIn K (.ref C_NoPile) (.type "BaseException") = some true)
    (tt_NoPile : PySem.W.typeIn K (.ref C_NoPile) = some (.type "type"))
    (g_NoTurn : PySem.W.nsIn K mainGlobals "NoTurn" = some (some (.ref C_NoTurn)))
    (x_NoTurn : PySem.W.excIn K C_NoTurn [.type "ValueError", .type "Exception", .type "BaseException", .type "object"] "ValueError.__new__" = true)
    (kk_NoTurn : PySem.W.keepIn K (.ref C_NoTurn) = true)
    (bb_NoTurn : PySem.W.subIn K (.ref C_NoTurn) (.type "BaseException") = some true)
    (tt_NoTurn : PySem.W.typeIn K (.ref C_NoTurn) = some (.type "type"))
    (g_TooTall : PySem.W.nsIn K mainGlobals "TooTall" = some (some (.ref C_TooTall)))
    (x_TooTall : PySem.W.excIn K C_TooTall [.type "ValueError", .type "Exception", .type "BaseException", .type "object"] "ValueError.__new__" = true)
    (kk_TooTall : PySem.W.keepIn K (.ref C_TooTall) = true)
    (bb_TooTall : PySem.W.subIn K (.ref C_TooTall) (.type "BaseException") = some true)
    (tt_TooTall : PySem.W.typeIn K (.ref C_TooTall) = some (.type "type"))
    (g_NoBack : PySem.W.nsIn K mainGlobals "NoBack" = some (some (.ref C_NoBack)))
    (x_NoBack : PySem.W.excIn K C_NoBack [.type "ValueError", .type "Exception", .type "BaseException", .type "object"] "ValueError.__new__" = true)
    (kk_NoBack : PySem.W.keepIn K (.ref C_NoBack) = true)
    (bb_NoBack : PySem.W.subIn K (.ref C_NoBack) (.type "BaseException") = some true)
    (tt_NoBack : PySem.W.typeIn K (.ref C_NoBack) = some (.type "type"))
    (g_BadLine : PySem.W.nsIn K mainGlobals "BadLine" = some (some (.ref C_BadLine)))
    (x_BadLine : PySem.W.excIn K C_BadLine [.type "ValueError", .type "Exception", .type "BaseException", .type "object"] "ValueError.__new__" = true)
    (kk_BadLine : PySem.W.keepIn K (.ref C_BadLine) = true)
    (bb_BadLine : PySem.W.subIn K (.ref C_BadLine) (.type "BaseException") = some true)
    (tt_BadLine : PySem.W.typeIn K (.ref C_BadLine) = some (.type "type"))
    (w0_BadLine : PySem.W.findIn K (.ref C_BadLine) "__getattribute__" = some (some (.builtin "BaseException.__getattribute__")))
    (w1_BadLine : PySem.W.findIn K (.ref C_BadLine) "__getattr__" = some none)
    (w4_BadLine : PySem.W.findIn K (.ref C_BadLine) "__class__" = some (some (.builtin "object.__class__")))
    (w7_BadLine : PySem.W.mroIn K C_BadLine (.type "object") = some true)
    (q0_BadLine : PySem.W.subIn K (.ref C_BadLine) (.ref C_NoPile) = some false)
    (q1_BadLine : PySem.W.subIn K (.ref C_BadLine) (.ref C_NoTurn) = some false)
    (q2_BadLine : PySem.W.subIn K (.ref C_BadLine) (.ref C_TooTall) = some false)
    (q3_BadLine : PySem.W.subIn K (.ref C_BadLine) (.ref C_NoBack) = some false)
    (qv_BadLine : PySem.W.subIn K (.ref C_BadLine) (.type "ValueError") = some true)
    (qm_BadLine : PySem.W.subIn K (.ref C_BadLine) (.ref C_FlipError) = some true)
    (w3_NoPile : PySem.W.hasDictIn K C_NoPile = true)
    (ss_NoPile : PySem.W.subIn K (.ref C_NoPile) (.ref C_NoPile) = some true)
    (w3_NoTurn : PySem.W.hasDictIn K C_NoTurn = true)
    (ss_NoTurn : PySem.W.subIn K (.ref C_NoTurn) (.ref C_NoTurn) = some true)
    (w3_TooTall : PySem.W.hasDictIn K C_TooTall = true)
    (ss_TooTall : PySem.W.subIn K (.ref C_TooTall) (.ref C_TooTall) = some true)
    (w3_NoBack : PySem.W.hasDictIn K C_NoBack = true)
    (ss_NoBack : PySem.W.subIn K (.ref C_NoBack) (.ref C_NoBack) = some true)
    (w3_BadLine : PySem.W.hasDictIn K C_BadLine = true)
    (ss_BadLine : PySem.W.subIn K (.ref C_BadLine) (.ref C_BadLine) = some true)
    (w3_FlipError : PySem.W.hasDictIn K C_FlipError = true)
    (ss_FlipError : PySem.W.subIn K (.ref C_FlipError) (.ref C_FlipError) = some true)
    (w5 : PySem.W.specialIn K (.builtin "object.__class__") "__get__" = some (some (.builtin "getset_descriptor.__get__")))
    (w6 : PySem.W.takesIn K (.builtin "object.__class__") = some true) :
    ∃ fd : FuncData, (∀ (s : Shared) (v : Value), BindsTo s fd ⟨[v], []⟩ [("script", v)]) ∧ ∀ base : Heap, K.In base → base.Ns mainGlobals mg → FnOk l.prog w K mg base (L2.CX l.prog w) 5 fa fd ["script"] (sp_law K) := by
  have e := hfa.symm.trans (PySem.W.mg_of X G a_law)
  cases e
  have T : Txt K mg (⟨C_FlipError, C_NoPile, C_NoTurn, C_TooTall, C_NoBack, C_BadLine, 0⟩ : ExA) := { dum := True.intro, z_ValueError := PySem.W.mg_none_of X G z_ValueError, z_abs := PySem.W.mg_none_of X G z_abs, z_int := PySem.W.mg_none_of X G z_int, z_isinstance := PySem.W.mg_none_of X G z_isinstance, z_len := PySem.W.mg_none_of X G z_len, z_list := PySem.W.mg_none_of X G z_list, z_range := PySem.W.mg_none_of X G z_range, z_sorted := PySem.W.mg_none_of X G z_sorted, z_str := PySem.W.mg_none_of X G z_str, m_MOST := ⟨_, PySem.W.mg_of X G m_MOST⟩, m_FIGURES := ⟨_, PySem.W.mg_of X G m_FIGURES⟩, e_BadLine := ⟨PySem.W.mg_of X G g_BadLine, x_BadLine, kk_BadLine, bb_BadLine, tt_BadLine⟩, e_FlipError := ⟨PySem.W.mg_of X G g_FlipError, x_FlipError, kk_FlipError, bb_FlipError, tt_FlipError⟩, e_NoBack := ⟨PySem.W.mg_of X G g_NoBack, x_NoBack, kk_NoBack, bb_NoBack, tt_NoBack⟩, e_NoPile := ⟨PySem.W.mg_of X G g_NoPile, x_NoPile, kk_NoPile, bb_NoPile, tt_NoPile⟩, e_NoTurn := ⟨PySem.W.mg_of X G g_NoTurn, x_NoTurn, kk_NoTurn, bb_NoTurn, tt_NoTurn⟩, e_TooTall := ⟨PySem.W.mg_of X G g_TooTall, x_TooTall, kk_TooTall, bb_TooTall, tt_TooTall⟩, w_BadLine := ⟨⟨w0_BadLine, w1_BadLine, bb_BadLine, w3_BadLine, w4_BadLine, w5, w6, w7_BadLine⟩, kit_ref w3_NoPile tt_NoPile q0_BadLine ss_NoPile, kit_ref w3_NoTurn tt_NoTurn q1_BadLine ss_NoTurn, kit_ref w3_TooTall tt_TooTall q2_BadLine ss_TooTall, kit_ref w3_NoBack tt_NoBack q3_BadLine ss_NoBack, kit_self _, kit_val (by decide +kernel) qv_BadLine, PySem.W.exm_ref bb_FlipError w3_FlipError tt_FlipError qm_BadLine⟩, xs_NoPile := PySem.W.exm_ref bb_NoPile w3_NoPile tt_NoPile ss_NoPile }
  have F__law_burnt := fun_mk (st := s__law_burnt) l__law_burnt c__law_burnt k__law_burnt
  have b__law_burnt := F__law_burnt.binds (ps := ["pile", "cell"]) fun _ _ _ _ _ _ us hl => match us, hl with | [_, _], _ => rfl
  have F__law_cell_at := fun_mk (st := s__law_cell_at) l__law_cell_at c__law_cell_at k__law_cell_at
  have b__law_cell_at := F__law_cell_at.binds (ps := ["script", "k"]) fun _ _ _ _ _ _ us hl => match us, hl with | [_, _], _ => rfl
  have F__law_pile := fun_mk (st := s__law_pile) l__law_pile c__law_pile k__law_pile
  have b__law_pile := F__law_pile.binds (ps := ["script", "at", "most"]) fun _ _ _ _ _ _ us hl => match us, hl with | [_, _, _], _ => rfl
  have F__law_sign_by := fun_mk (st := s__law_sign_by) l__law_sign_by c__law_sign_by k__law_sign_by
  have b__law_sign_by := F__law_sign_by.binds (ps := ["cell"]) fun _ _ _ _ _ _ us hl => match us, hl with | [_], _ => rfl
  have F__law_spoiled := fun_mk (st := s__law_spoiled) l__law_spoiled c__law_spoiled k__law_spoiled
  have b__law_spoiled := F__law_spoiled.binds (ps := ["text", "cell", "other"]) fun _ _ _ _ _ _ us hl => match us, hl with | [_, _, _], _ => rfl
  have F__law_odd := fun_mk (st := s__law_odd) l__law_odd c__law_odd k__law_odd
  have b__law_odd := F__law_odd.binds (ps := ["cell"]) fun _ _ _ _ _ _ us hl => match us, hl with | [_], _ => rfl
  have F__law_number := fun_mk (st := s__law_number) l__law_number c__law_number k__law_number
  have b__law_number := F__law_number.binds (ps := ["word"]) fun _ _ _ _ _ _ us hl => match us, hl with | [_], _ => rfl
  have F__law_due := fun_mk (st := s__law_due) l__law_due c__law_due k__law_due
  have b__law_due := F__law_due.binds (ps := ["text", "burnt"]) fun _ _ _ _ _ _ us hl => match us, hl with | [_, _], _ => rfl
  have F_cake_of_plain := fun_mk (st := s_cake_of_plain) l_cake_of_plain c_cake_of_plain k_cake_of_plain
  have b_cake_of_plain := F_cake_of_plain.binds (ps := ["word"]) fun _ _ _ _ _ _ us hl => match us, hl with | [_], _ => rfl
  have F_cake_of := fun_mk (st := s_cake_of) l_cake_of c_cake_of k_cake_of
  have b_cake_of := F_cake_of.binds (ps := ["word"]) fun _ _ _ _ _ _ us hl => match us, hl with | [_], _ => rfl
  have F_ask_pile := fun_mk (st := s_ask_pile) l_ask_pile c_ask_pile k_ask_pile
  have b_ask_pile := F_ask_pile.binds (ps := ["pile"]) fun _ _ _ _ _ _ us hl => match us, hl with | [_], _ => rfl
  have F_ask_burnt := fun_mk (st := s_ask_burnt) l_ask_burnt c_ask_burnt k_ask_burnt
  have b_ask_burnt := F_ask_burnt.binds (ps := ["pile"]) fun _ _ _ _ _ _ us hl => match us, hl with | [_], _ => rfl
  have F_burnt_read := fun_mk (st := s_burnt_read) l_burnt_read c_burnt_read k_burnt_read
  have b_burnt_read := F_burnt_read.binds (ps := ["text"]) fun _ _ _ _ _ _ us hl => match us, hl with | [_], _ => rfl
  have F_read := fun_mk (st := s_read) l_read c_read k_read
  have b_read := F_read.binds (ps := ["text"]) fun _ _ _ _ _ _ us hl => match us, hl with | [_], _ => rfl
  have F__law_which := fun_mk (st := s__law_which) l__law_which c__law_which k__law_which
  have b__law_which := F__law_which.binds (ps := ["e"]) fun _ _ _ _ _ _ us hl => match us, hl with | [_], _ => rfl
  have F__law_told := fun_mk (st := s__law_told) l__law_told c__law_told k__law_told
  have b__law_told := F__law_told.binds (ps := ["text", "burnt"]) fun _ _ _ _ _ _ us hl => match us, hl with | [_, _], _ => rfl
  have F_law := fun_mk (st := s_law) l_law c_law k_law
  refine ⟨PySem.W.fnOf "law" "law" (defArgs s_law) (defBody s_law) (defScope s_law) .none kV_law dc_law pm_law an_law cd_law ct_law, fun s v => .of_eq rfl, fun base _ _ => ?_⟩
  have G__law_burnt : Cal l.prog w K mg base "_law_burnt" 1 ["pile", "cell"] sp__law_burnt := ⟨_, _, ok__law_burnt T F__law_burnt, PySem.W.mg_of X G a__law_burnt, k__law_burnt, b__law_burnt⟩
  have G__law_cell_at : Cal l.prog w K mg base "_law_cell_at" 1 ["script", "k"] (sp_cell K) := ⟨_, _, ok__law_cell_at T F__law_cell_at, PySem.W.mg_of X G a__law_cell_at, k__law_cell_at, b__law_cell_at⟩
  have G__law_pile : Cal l.prog w K mg base "_law_pile" 2 ["script", "at", "most"] (sp_pile K) := ⟨_, _, ok__law_pile T F__law_pile G__law_cell_at, PySem.W.mg_of X G a__law_pile, k__law_pile, b__law_pile⟩
  have G__law_sign_by : Cal l.prog w K mg base "_law_sign_by" 1 ["cell"] sp_sign := ⟨_, _, ok__law_sign_by T F__law_sign_by, PySem.W.mg_of X G a__law_sign_by, k__law_sign_by, b__law_sign_by⟩
  have G__law_spoiled : Cal l.prog w K mg base "_law_spoiled" 2 ["text", "cell", "other"] sp_spoiled := ⟨_, _, ok__law_spoiled T F__law_spoiled G__law_sign_by, PySem.W.mg_of X G a__law_spoiled, k__law_spoiled, b__law_spoiled⟩
  have G__law_odd : Cal l.prog w K mg base "_law_odd" 1 ["cell"] sp_odd := ⟨_, _, ok__law_odd T F__law_odd, PySem.W.mg_of X G a__law_odd, k__law_odd, b__law_odd⟩
  have G__law_number : Cal l.prog w K mg base "_law_number" 1 ["word"] sp_number := ⟨_, _, ok__law_number T F__law_number, PySem.W.mg_of X G a__law_number, k__law_number, b__law_number⟩
  have G__law_due : Cal l.prog w K mg base "_law_due" 2 ["text", "burnt"] sp_due := ⟨_, _, ok__law_due T F__law_due G__law_number, PySem.W.mg_of X G a__law_due, k__law_due, b__law_due⟩
  have G_cake_of_plain : Cal l.prog w K mg base "cake_of_plain" 1 ["word"] (sp_cop (⟨C_FlipError, C_NoPile, C_NoTurn, C_TooTall, C_NoBack, C_BadLine, 0⟩ : ExA).BadLine) := ⟨_, _, ok_cake_of_plain T F_cake_of_plain, PySem.W.mg_of X G a_cake_of_plain, k_cake_of_plain, b_cake_of_plain⟩
  have G_cake_of : Cal l.prog w K mg base "cake_of" 2 ["word"] (sp_co (⟨C_FlipError, C_NoPile, C_NoTurn, C_TooTall, C_NoBack, C_BadLine, 0⟩ : ExA).BadLine) := ⟨_, _, ok_cake_of T F_cake_of G_cake_of_plain, PySem.W.mg_of X G a_cake_of, k_cake_of, b_cake_of⟩
  have G_ask_pile : Cal l.prog w K mg base "ask_pile" 1 ["pile"] (sp_ask_pile (⟨C_FlipError, C_NoPile, C_NoTurn, C_TooTall, C_NoBack, C_BadLine, 0⟩ : ExA).NoPile) := ⟨_, _, ok_ask_pile T F_ask_pile, PySem.W.mg_of X G a_ask_pile, k_ask_pile, b_ask_pile⟩
  have GN_ask_pile : CalN l.prog w K mg base "ask_pile" 1 ["pile"] (sp_ask_pile (⟨C_FlipError, C_NoPile, C_NoTurn, C_TooTall, C_NoBack, C_BadLine, 0⟩ : ExA).NoPile) := ⟨_, _, okN_ask_pile T F_ask_pile, PySem.W.mg_of X G a_ask_pile, k_ask_pile, b_ask_pile⟩
  have G_ask_burnt : Cal l.prog w K mg base "ask_burnt" 2 ["pile"] (sp_ask_burnt (⟨C_FlipError, C_NoPile, C_NoTurn, C_TooTall, C_NoBack, C_BadLine, 0⟩ : ExA).NoPile) := ⟨_, _, ok_ask_burnt T F_ask_burnt G_ask_pile, PySem.W.mg_of X G a_ask_burnt, k_ask_burnt, b_ask_burnt⟩
  have GN_ask_burnt : CalN l.prog w K mg base "ask_burnt" 2 ["pile"] (sp_ask_burnt (⟨C_FlipError, C_NoPile, C_NoTurn, C_TooTall, C_NoBack, C_BadLine, 0⟩ : ExA).NoPile) := ⟨_, _, okN_ask_burnt T F_ask_burnt GN_ask_pile, PySem.W.mg_of X G a_ask_burnt, k_ask_burnt, b_ask_burnt⟩
  have G_burnt_read : Cal l.prog w K mg base "burnt_read" 3 ["text"] (sp_burnt_read (⟨C_FlipError, C_NoPile, C_NoTurn, C_TooTall, C_NoBack, C_BadLine, 0⟩ : ExA).BadLine) := ⟨_, _, ok_burnt_read T F_burnt_read G_cake_of GN_ask_burnt, PySem.W.mg_of X G a_burnt_read, k_burnt_read, b_burnt_read⟩
  have G_read : Cal l.prog w K mg base "read" 2 ["text"] (sp_read (⟨C_FlipError, C_NoPile, C_NoTurn, C_TooTall, C_NoBack, C_BadLine, 0⟩ : ExA).BadLine) := ⟨_, _, ok_read T F_read G_cake_of_plain GN_ask_pile, PySem.W.mg_of X G a_read, k_read, b_read⟩
  have G__law_which : CalE l.prog w K mg base "_law_which" 1 ["e"] (sp_which K (⟨C_FlipError, C_NoPile, C_NoTurn, C_TooTall, C_NoBack, C_BadLine, 0⟩ : ExA)) := ⟨_, _, ok__law_which T F__law_which, PySem.W.mg_of X G a__law_which, k__law_which, b__law_which⟩
  have G__law_told : Cal l.prog w K mg base "_law_told" 4 ["text", "burnt"] sp_toldB := ⟨_, _, ok__law_told T F__law_told G_burnt_read G_read G__law_which, PySem.W.mg_of X G a__law_told, k__law_told, b__law_told⟩
  exact ok_law T F_law G__law_burnt G__law_pile G__law_spoiled G__law_odd G__law_due G__law_told G__law_cell_at
theorem walk {l : PySem.W.OpenLaw} {q : Program} {loose : List Str} {XP : (Str → Option Value) → Heap → Prop} {YP : World → Heap → Prop} {d : DefRec} {K : Params → PySem.W.Frag} (hn : l.most = some 63) (hdf : d.params.defaults = [])
    (hY : ∀ (w : World) (h : Heap), YP w h → (K w.params).In h)
    (F : ∀ (w : World) (mg : Str → Option Value) (fa : Addr) (h : Heap), (K w.params).In h → h.Ns mainGlobals mg → mg d.name = some (.ref fa) →
      ∃ fd : FuncData, (∀ (s : Shared) (u : Value), BindsTo s fd ⟨[u], []⟩ [("script", u)]) ∧ ∀ base : Heap, (K w.params).In base → base.Ns mainGlobals mg → FnOk l.prog w (K w.params) mg base (L2.CX l.prog w) 5 fa fd ["script"] (sp_law (K w.params))) :
    PySem.W.WalkO q loose XP YP l.row.toRowW d [] (fun f vs => PySem.call f vs) :=
  L2.walk_of (n := 63) (k := 5) (x := "script") (CX := fun w => L2.CX l.prog w) (sp := fun w => sp_law (K w.params)) hn (by decide) hdf ⟨rfl, by decide, by decide⟩ hY F (fun _ _ a ns hl _ hS => ⟨a, ns, rfl, hS, hl, fun _ => rfl⟩) fun _ _ _ _ _ h => by
    obtain ⟨_, _, _, _, _, _, _, _, _, _, _, _, z⟩ := h
    exact z
end Toy
open PySem PySem.W PyProof.Rows in
set_option maxRecDepth 100000 in
set_option maxHeartbeats 0 in
theorem PySem.Challenge.cw_flipstack_k14_texts_refused_holds : PySem.Challenge.rw_flipstack_k14_texts_refused.Holds := by
  w_on; o_law; k_head; (case hw => w_witness2)
  k_fill
  refine Toy.walk (l := PySem.Challenge.rw_flipstack_k14_texts_refused) rfl rfl (fun w h Y => PySem.W.kIn_of Y) ?F
  case F =>
    intro w mg fa h KX G hmg
    refine' Toy.all_mk KX G hmg ?a__law_burnt ?l__law_burnt ?c__law_burnt ?k__law_burnt ?a__law_cell_at ?l__law_cell_at ?c__law_cell_at ?k__law_cell_at ?a__law_pile ?l__law_pile ?c__law_pile ?k__law_pile ?a__law_sign_by ?l__law_sign_by ?c__law_sign_by ?k__law_sign_by ?a__law_spoiled ?l__law_spoiled ?c__law_spoiled ?k__law_spoiled ?a__law_odd ?l__law_odd ?c__law_odd ?k__law_odd ?a__law_number ?l__law_number ?c__law_number ?k__law_number ?a__law_due ?l__law_due ?c__law_due ?k__law_due ?a_cake_of_plain ?l_cake_of_plain ?c_cake_of_plain ?k_cake_of_plain ?a_cake_of ?l_cake_of ?c_cake_of ?k_cake_of ?a_ask_pile ?l_ask_pile ?c_ask_pile ?k_ask_pile ?a_ask_burnt ?l_ask_burnt ?c_ask_burnt ?k_ask_burnt ?a_burnt_read ?l_burnt_read ?c_burnt_read ?k_burnt_read ?a_read ?l_read ?c_read ?k_read ?a__law_which ?l__law_which ?c__law_which ?k__law_which ?a__law_told ?l__law_told ?c__law_told ?k__law_told ?a_law ?l_law ?c_law ?k_law ?z_ValueError ?z_abs ?z_int ?z_isinstance ?z_len ?z_list ?z_range ?z_sorted ?z_str ?m_MOST ?m_FIGURES ?g_FlipError ?x_FlipError ?kk_FlipError ?bb_FlipError ?tt_FlipError ?g_NoPile ?x_NoPile ?kk_NoPile ?bb_NoPile ?tt_NoPile ?g_NoTurn ?x_NoTurn ?kk_NoTurn ?bb_NoTurn ?tt_NoTurn ?g_TooTall ?x_TooTall ?kk_TooTall ?bb_TooTall ?tt_TooTall ?g_NoBack ?x_NoBack ?kk_NoBack ?bb_NoBack ?tt_NoBack ?g_BadLine ?x_BadLine ?kk_BadLine ?bb_BadLine ?tt_BadLine ?w0_BadLine ?w1_BadLine ?w4_BadLine ?w7_BadLine ?q0_BadLine ?q1_BadLine ?q2_BadLine ?q3_BadLine ?qv_BadLine ?qm_BadLine ?w3_NoPile ?ss_NoPile ?w3_NoTurn ?ss_NoTurn ?w3_TooTall ?ss_TooTall ?w3_NoBack ?ss_NoBack ?w3_BadLine ?ss_BadLine ?w3_FlipError ?ss_FlipError ?w5 ?w6
    (case g_FlipError => k_is)
    (case g_NoPile => k_is)
    (case g_NoTurn => k_is)
    (case g_TooTall => k_is)
    (case g_NoBack => k_is)
    (case g_BadLine => k_is)
    (case a__law_burnt => k_is)
    (case l__law_burnt => k_is)
    (case c__law_burnt => k_is)
    (case k__law_burnt => k_is)
    (case a__law_cell_at => k_is)
    (case l__law_cell_at => k_is)
    (case c__law_cell_at => k_is)
    (case k__law_cell_at => k_is)
    (case a__law_pile => k_is)
    (case l__law_pile => k_is)
    (case c__law_pile => k_is)
    (case k__law_pile => k_is)
    (case a__law_sign_by => k_is)
    (case l__law_sign_by => k_is)
    (case c__law_sign_by => k_is)
    (case k__law_sign_by => k_is)
    (case a__law_spoiled => k_is)
    (case l__law_spoiled => k_is)
    (case c__law_spoiled => k_is)
    (case k__law_spoiled => k_is)
    (case a__law_odd => k_is)
    (case l__law_odd => k_is)
    (case c__law_odd => k_is)
    (case k__law_odd => k_is)
    (case a__law_number => k_is)
    (case l__law_number => k_is)
    (case c__law_number => k_is)
    (case k__law_number => k_is)
    (case a__law_due => k_is)
    (case l__law_due => k_is)
    (case c__law_due => k_is)
    (case k__law_due => k_is)
    (case a_cake_of_plain => k_is)
    (case l_cake_of_plain => k_is)
    (case c_cake_of_plain => k_is)
    (case k_cake_of_plain => k_is)
    (case a_cake_of => k_is)
    (case l_cake_of => k_is)
    (case c_cake_of => k_is)
    (case k_cake_of => k_is)
    (case a_ask_pile => k_is)
    (case l_ask_pile => k_is)
    (case c_ask_pile => k_is)
    (case k_ask_pile => k_is)
    (case a_ask_burnt => k_is)
    (case l_ask_burnt => k_is)
    (case c_ask_burnt => k_is)
    (case k_ask_burnt => k_is)
    (case a_burnt_read => k_is)
    (case l_burnt_read => k_is)
    (case c_burnt_read => k_is)
    (case k_burnt_read => k_is)
    (case a_read => k_is)
    (case l_read => k_is)
    (case c_read => k_is)
    (case k_read => k_is)
    (case a__law_which => k_is)
    (case l__law_which => k_is)
    (case c__law_which => k_is)
    (case k__law_which => k_is)
    (case a__law_told => k_is)
    (case l__law_told => k_is)
    (case c__law_told => k_is)
    (case k__law_told => k_is)
    (case a_law => k_is)
    (case l_law => k_is)
    (case c_law => k_is)
    (case k_law => k_is)
    (case z_ValueError => k_is)
    (case z_abs => k_is)
    (case z_int => k_is)
    (case z_isinstance => k_is)
    (case z_len => k_is)
    (case z_list => k_is)
    (case z_range => k_is)
    (case z_sorted => k_is)
    (case z_str => k_is)
    (case m_MOST => k_is)
    (case m_FIGURES => k_is)
    (case x_FlipError => first | k_exc | k_is)
    (case kk_FlipError => k_is)
    (case bb_FlipError => first | rfl | k_is)
    (case tt_FlipError => k_is)
    (case x_NoPile => first | k_exc | k_is)
    (case kk_NoPile => k_is)
    (case bb_NoPile => first | rfl | k_is)
    (case tt_NoPile => k_is)
    (case x_NoTurn => first | k_exc | k_is)
    (case kk_NoTurn => k_is)
    (case bb_NoTurn => first | rfl | k_is)
    (case tt_NoTurn => k_is)
    (case x_TooTall => first | k_exc | k_is)
    (case kk_TooTall => k_is)
    (case bb_TooTall => first | rfl | k_is)
    (case tt_TooTall => k_is)
    (case x_NoBack => first | k_exc | k_is)
    (case kk_NoBack => k_is)
    (case bb_NoBack => first | rfl | k_is)
    (case tt_NoBack => k_is)
    (case x_BadLine => first | k_exc | k_is)
    (case kk_BadLine => k_is)
    (case bb_BadLine => first | rfl | k_is)
    (case tt_BadLine => k_is)
    (case w0_BadLine => k_is)
    (case w1_BadLine => k_is)
    (case w4_BadLine => k_is)
    (case w7_BadLine => k_is)
    (case q0_BadLine => k_is)
    (case q1_BadLine => k_is)
    (case q2_BadLine => k_is)
    (case q3_BadLine => k_is)
    (case qv_BadLine => k_is)
    (case qm_BadLine => k_is)
    (case w3_NoPile => k_is)
    (case ss_NoPile => k_is)
    (case w3_NoTurn => k_is)
    (case ss_NoTurn => k_is)
    (case w3_TooTall => k_is)
    (case ss_TooTall => k_is)
    (case w3_NoBack => k_is)
    (case ss_NoBack => k_is)
    (case w3_BadLine => k_is)
    (case ss_BadLine => k_is)
    (case w3_FlipError => k_is)
    (case ss_FlipError => k_is)
    (case w5 => k_is)
    (case w6 => k_is)
#print axioms PySem.Challenge.cw_flipstack_k14_texts_refused_holds
