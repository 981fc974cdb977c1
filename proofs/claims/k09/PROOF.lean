import PyProof.Rows.All
import Wide.All
import OpenK.AllK
import Wide.FinOn
import HandS.ForMost
import HandS.ForExc
import HandS.Rev
import HandS.RevRange
import HandS.Conv
import HandS.IsInst
import HandS.Evl
import HandS.ExcIs
import HandS.HotCalls
import HandS.SuiteRaise
import HandS.Wide
import HandS.More
import HandS.ForDict
import PyProof.DictFindH
import KE.IntTextLaws
import PySem.Challenge.RW_flipstack_k09_counts
set_option Elab.async false
set_option linter.all false
set_option maxRecDepth 100000
set_option maxHeartbeats 4000000
namespace FL
open PySem PySem.Spec PyProof.Rows L2 RT
/-! ## list(iterator): an iterator that is its own iterator, of a type whose length hint the model takes for nothing -/
section
variable {prog : Program} {w : World} {A : Around} {E : Value → Shared → Prop} {s : Shared}
def HintNone (prog : Program) (w : World) (T : String) (it : Addr) (OK : Heap → Prop) : Prop :=
  ∀ (A : Around) (E : Value → Shared → Prop) (s : Shared) (Q : Bool → Shared → Prop), s.TypeIs (.ref it) T → OK s.heap → (∀ tk, Q false { s with toks := tk }) → wpAny (model prog w) A (Builtin.List.listLengthHint (.ref it)) Q E s
theorem extend_it {R : Result → Shared → Prop} {it : Addr} {T : String} {fp : List Addr} {n : Nat} {P : Nat → Value → Prop} {St : Nat → Heap → Prop} (Wk : Walks prog w A.in1 it fp [it] n P St) (tyI : s.TypeIs (.ref it) T)
    (hT : T = "list_reverseiterator" ∨ T = "range_iterator") (hi : HintNone prog w T it (St 0)) (st : St 0 s.heap) (nz : n ≤ sizeLine)
    (L : Addr) (hLi : L ≠ it) (hLf : L ∉ fp) (rv0 : Value) (c0 : Nat) (hL : s.heap.get? L = some { cls := .type "list", data := .seq #[] c0 })
    (kR : ∀ h' tk ac c', (∀ b o, b ≠ L → b ≠ it → s.heap.get? b = some o → h'.get? b = some o) → h'.get? L = some { cls := .type "list", dict := none, data := .seq ac c', slots := #[] } → ItemsOf P ac n → R (.ok (.ret rv0)) { s with heap := h', toks := tk }) :
    wpAny (model prog w) A.in1 (Builtin.List.listExtendWith (.ref L) (.ref it) rv0)
      (fun fin s2 => match fin with | .done f => R (.ok f) s2 | .again c2 => c2.quiet = true ∧ codeAny (model prog w) A c2 R s2) (fun e s2 => R (.error e) s2) s := by
  have ns1 : Builtin.List.listSameRef (.ref L) (.ref it) = false := by simp [Builtin.List.listSameRef, hLi]
  unfold Builtin.List.listExtendWith
  refine wpAny_bind (wpAny_typeOf tyI ?_)
  refine wpAny_ite_split (fun hab => absurd hab (by rw [ns1]; rcases hT with rfl | rfl <;> decide)) (fun _ => ?_)
  refine wpAny_bind (Wk.self 0 s _ _ st ?_)
  refine wpAny_bind (wpAny_holding (hi _ _ s _ tyI st fun tk0 => ?_))
  refine wpAny_ite_split (fun hab => absurd hab (by rcases hT with rfl | rfl <;> decide)) (fun _ => ?_)
  refine wpAny_pure ⟨plainId_quiet F.plain_extend_loop _, codeAny_extend_loopS Wk.toS nz L hLf rv0 n 0 _ #[] c0 rfl (Nat.zero_le _) st hL (ItemsOf.nil _) fun s2 ac c2 mv hL2 acc0 => ?_⟩
  rw [Moved.eq_with mv]
  refine kR s2.heap s2.toks ac c2 (fun b o hb hb2 e => mv.heap b o (fun mm => ?_) e) hL2 acc0
  rcases List.mem_cons.mp mm with e2 | mm
  · exact hb e2
  · exact hb2 (List.mem_singleton.mp mm)
theorem init_it {R : Result → Shared → Prop} {it : Addr} {T : String} {fp : List Addr} {n : Nat} {P : Nat → Value → Prop} {St : Nat → Heap → Prop} (Wk : Walks prog w A.in1 it fp [it] n P St) (tyI : s.TypeIs (.ref it) T)
    (hT : T = "list_reverseiterator" ∨ T = "range_iterator") (hi : HintNone prog w T it (St 0)) (st : St 0 s.heap) (nz : n ≤ sizeLine)
    (L : Addr) (hLi : L ≠ it) (hLf : L ∉ fp) (hL : s.heap.get? L = some { cls := .type "list", data := .seq #[] })
    (kR : ∀ h' tk ac c', (∀ b o, b ≠ L → b ≠ it → s.heap.get? b = some o → h'.get? b = some o) → h'.get? L = some { cls := .type "list", dict := none, data := .seq ac c', slots := #[] } → ItemsOf P ac n → R (.ok (.ret .none)) { s with heap := h', toks := tk }) :
    wpAny (model prog w) A.in1 (Builtin.«list.__init__» ⟨[.ref L, .ref it], []⟩)
      (fun fin s2 => match fin with | .done f => R (.ok f) s2 | .again c2 => c2.quiet = true ∧ codeAny (model prog w) A c2 R s2) (fun e s2 => R (.error e) s2) s := by
  show wpAny _ _ (do let was ← Builtin.List.listItems (.ref L); Builtin.List.listUpdate (.ref L) (fun _ => #[]); letGo was.toList.reverse; Builtin.List.listExtendWith (.ref L) (.ref it) .none) _ _ s
  refine wpAny_bind ?_
  unfold Builtin.List.listItems
  refine wpAny_bind (wpAny_seqItems hL rfl (wpAny_pure ?_))
  show wpAny _ _ (updateSeq L (fun _ => #[]) >>= fun _ => letGo (#[] : Array Value).toList.reverse >>= fun _ => Builtin.List.listExtendWith (.ref L) (.ref it) .none) _ _ s
  refine wpAny_bind (wpAny_updateSeq hL rfl (wpAny_bind (wpAny_letGo ?_)))
  have hL2 := Heap.get?_update_self (Obj.mapSeq (fun _ => (#[] : Array Value))) hL rfl
  have rest0 : ∀ b o, b ≠ L → s.heap.get? b = some o → (s.heap.update L (Obj.mapSeq (fun _ => (#[] : Array Value)))).get? b = some o := fun b o nb e => (Heap.get?_update_other _ _ nb.symm).trans e
  obtain ⟨oi, hoi, hoc⟩ := id tyI
  refine extend_it (s := { s with heap := s.heap.update L (Obj.mapSeq (fun _ => (#[] : Array Value))) }) Wk ⟨oi, rest0 _ _ hLi.symm hoi, hoc⟩ hT hi (Wk.frame 0 _ _ st fun b hb o e => rest0 b o (fun z => hLf (z ▸ hb)) e) nz L hLi hLf .none _ hL2 fun h2 tk ac c2 kp e2 it2 => ?_
  exact kR h2 tk ac c2 (fun b o hb hb2 e => kp b o hb hb2 (rest0 b o hb e)) e2 it2
theorem call_list_it {Q : Value → Shared → Prop} {it : Addr} {T : String} {fp : List Addr} {n : Nat} {P : Nat → Value → Prop} {St : Nat → Heap → Prop} (Wk : Walks prog w A.in1.in1 it fp [it] n P St) (tyI : s.TypeIs (.ref it) T)
    (hT : T = "list_reverseiterator" ∨ T = "range_iterator") (hi : HintNone prog w T it (St 0)) (st : St 0 s.heap) (nz : n ≤ sizeLine) (hf : ∀ b ∈ fp, b < s.heap.objs.size)
    (kQ : ∀ h' tk ac c', (∀ b o, b ≠ it → s.heap.get? b = some o → h'.get? b = some o) → h'.get? s.heap.objs.size = some { cls := .type "list", dict := none, data := .seq ac c', slots := #[] } → ItemsOf P ac n → Q (.ref s.heap.objs.size) { s with heap := h', toks := tk }) :
    wpAny (model prog w) A (call (.type "list") [.ref it]) Q E s := by
  refine callType_codes (Q₁ := fun ob t1 => ob = .ref s.heap.objs.size ∧ t1 = { s with heap := s.heap.push { cls := .type "list", data := .seq #[] } }) PySem.F.called_list (PySem.F.typeCall_list_1 _) PySem.F.entry_list_init
    (code_list_new _ ⟨rfl, rfl⟩) fun ob t1 q1 => ?_
  obtain ⟨rfl, rfl⟩ := q1
  have hL : (s.heap.push { cls := .type "list", data := .seq #[] }).get? s.heap.objs.size = some { cls := .type "list", data := .seq #[] } := Heap.get?_push_size _ rfl
  obtain ⟨oi, hoi, hoc⟩ := id tyI
  refine ⟨⟨_, hL, rfl⟩, PySem.F.args_list_init_2 _ _, init_it (A := A.in1) Wk ⟨oi, Heap.get?_push_of_some _ hoi, hoc⟩ hT hi (Wk.frame 0 _ _ st fun b _ o e => Heap.get?_push_of_some _ e) nz _ (Nat.ne_of_gt (Heap.lt_size hoi)) (fun hm => absurd (hf _ hm) (Nat.lt_irrefl _)) hL (fun h2 tk ac c2 kp e2 it2 => ?_)⟩
  exact ⟨rfl, kQ h2 tk ac c2 (fun b o nb e => kp b o (Nat.ne_of_lt (Heap.lt_size e)) nb (Heap.get?_push_of_some _ e)) e2 it2⟩
theorem hint_rev (it : Addr) {OK : Heap → Prop} : HintNone prog w "list_reverseiterator" it OK := fun A E s Q tyI ok q => by
  unfold Builtin.List.listLengthHint
  refine wpAny_bind (wpAny_specialOf tyI nolen_lri ?_)
  show wpAny _ A (specialOf (Value.ref it) (Str.ofString "__length_hint__") >>= _) _ _ _
  refine wpAny_bind (wpAny_specialOf tyI hint_lri ?_)
  generalize nm : ("list_reverseiterator.__length_hint__" : String) = meth
  wp_delta
  rw [show splitId meth = some ("list_reverseiterator", "__length_hint__") from by subst nm; decide +kernel]
  subst nm
  exact wpAny_bind (wpAny_isInstance (b := true) tyI (by rw [isSubtype_type]; kernel_rfl) (wpAny_pure (q s.toks)))
theorem call_rgi_hint {r : Addr} {a c : Int} {n : Nat} {Q : Value → Shared → Prop} (hr : IsRangeIter s.heap r a (n : Int) c) (h : ∀ t tk, Q (.int (n : Int) t) { s with toks := tk }) :
    wpAny (model prog w) A (call (.builtin "range_iterator.__length_hint__") [.ref r]) Q E s := by
  have hT : s.TypeIs (.ref r) "range_iterator" := ⟨_, hr, rfl⟩
  refine wpAny_call_entry F.slot_range_iterator_length_hint hT F.entry_range_iterator_length_hint ?_ (F.args_range_iterator_length_hint_1 _)
  obtain ⟨hp, g, d, tk, os⟩ := s
  wp_walk using wpAny_loadPart' hr
  exact ⟨_, rfl, h _ _⟩
theorem hint_rgi (it : Addr) {a c : Int} {n : Nat} {OK : Heap → Prop} (ok : ∀ h, OK h → IsRangeIter h it a (n : Int) c) (hn : n ≤ 2 ^ 24) : HintNone prog w "range_iterator" it OK := fun A E s Q tyI o q => by
  unfold Builtin.List.listLengthHint
  refine wpAny_bind (wpAny_specialOf tyI F.nolen_ra ?_)
  show wpAny _ A (specialOf (Value.ref it) (Str.ofString "__length_hint__") >>= _) _ _ _
  refine wpAny_bind (wpAny_specialOf tyI F.hint_ra ?_)
  generalize nm : ("range_iterator.__length_hint__" : String) = meth
  wp_delta
  rw [show splitId meth = some ("range_iterator", "__length_hint__") from by subst nm; decide +kernel]
  subst nm
  refine wpAny_bind (wpAny_isInstance (b := true) tyI (by rw [isSubtype_type]; kernel_rfl) ?_)
  show wpAny _ A (call (.builtin "range_iterator.__length_hint__") [.ref it] >>= _) _ _ _
  refine wpAny_bind (call_rgi_hint (ok _ o) fun t tk => ?_)
  have htl : Builtin.List.listTooLong ((n : Int).toNat) = false := by simp [Builtin.List.listTooLong, sizeLine]; omega
  refine wpAny_bind (m := asInt? _) (wpAny_pure ?_)
  dsimp only
  rw [if_neg (by rw [htl]; decide)]
  exact wpAny_pure (q tk)
end
/-- list(reversed(x)), x a list: a new list -/
def tLstRev (K : PySem.W.Frag) (te : TE) : TE := fun σ H Q => te σ H fun v H1 => ∃ (a : Addr) (xs : List V), v = .ref a ∧ SqL K H1 a xs ∧ ∀ q, H1 q = none → Q (.ref q) (upd H1 q (.lst xs.reverse))
/-- list(reversed(range(a, b))): a new list -/
def tLstRevR (te : L2.St → Hp → (Int → Int → Hp → Prop) → Prop) : TE := fun σ H Q => te σ H fun a b H1 => RgOk a b ∧ ∀ q, H1 q = none → Q (.ref q) (upd H1 q (.lst (rgV a b).reverse))
section
variable {X : Cx}
theorem pe_lstRev {e : Expr} {te : TE} {p p2 pos pos2 : Pos} (hc : X.calm = true) (hg : Gl X "list") (mv : X.mg "list" = none) (hg2 : Gl X "reversed") (hm2 : X.mg "reversed" = none) (he : PE X e te)
    (st1 : starEach [e] X.env = (false, eval e X.env) :: starEach [] X.env := by rfl)
    (st2 : starEach [.Call (.Name "reversed" p2) [e] [] pos2] X.env = (false, eval (.Call (.Name "reversed" p2) [e] [] pos2) X.env) :: starEach [] X.env := by rfl) :
    PE X (.Call (.Name "list" p) [.Call (.Name "reversed" p2) [e] [] pos2] [] pos) (tLstRev X.K te) := by
  refine ⟨fun pins s σ H Q I h => Call_ (ld_blt I hg mv boot_list (PyProof.Rows.callWith_type1 (args_cons (Call_ (ld_blt I hg2 hm2 PyProof.Rows.boot_reversed (PyProof.Rows.callWith_type1 (args_cons (thn (he.run pins s σ H _ I h) fun u0 s1 ⟨v, H1, J1, rr, qq⟩ => args_nil ?_) st1) st1 rfl))) st2) st2 rfl))⟩
  obtain ⟨l0, ys, eV, lq, q⟩ := qq
  subst eV
  obtain rfl : u0 = Value.ref l0 := rr
  obtain ⟨vs0, rV, pl, zL⟩ := J1.list lq
  refine call_reversed_list pl.isList (args_nil ?_)
  have kOld : ∀ b o, s1.heap.get? b = some o → (s1.heap.push (revObj l0 ((vs0.toArray.size : Int) - 1))).get? b = some o := fun b o x => Heap.get?_push_of_some _ x
  have li := pl.isList
  obtain ⟨oL, hoL, _⟩ := id li
  have nli : l0 ≠ s1.heap.objs.size := Nat.ne_of_lt (Heap.lt_size hoL)
  have nz : vs0.toArray.size ≤ sizeLine := by rw [List.size_toArray, ← rV.length]; exact zL
  have szL : s1.heap.objs.size ≤ (s1.heap.push (revObj l0 ((vs0.toArray.size : Int) - 1))).objs.size := by
    rw [Heap.size_push]
    exact Nat.le_succ _
  have st0 : ∀ h : Heap, h.IsRevIter s1.heap.objs.size l0 ((vs0.toArray.size : Int) - 1) → h.IsRevIter s1.heap.objs.size l0 ((vs0.toArray.size : Int) - 1 - ((0 : Nat) : Int)) := fun h x => by
    rw [show ((vs0.toArray.size : Nat) : Int) - 1 - ((0 : Nat) : Int) = (vs0.toArray.size : Int) - 1 by omega]
    exact x
  refine call_list_it (s := { s1 with heap := s1.heap.push (revObj l0 ((vs0.toArray.size : Int) - 1)) }) (Walks.listRev (show X.A.in1.in1.handled = none from J1.ok.hd hc) s1.heap.objs.size l0 nli vs0.toArray) ⟨_, Heap.get?_push_size _ rfl, rfl⟩ (.inl rfl) (hint_rev _)
    ⟨Nat.zero_le _, st0 _ ⟨_, Heap.get?_push_size _ rfl, rfl, rfl⟩, li.push _⟩ nz (fun b hb => ?_) fun h2 tk ac c2 kp e2 it2 => ?_
  · rw [Heap.size_push]
    rcases List.mem_cons.mp hb with z | z
    · rw [z]
      exact Nat.lt_succ_self _
    · rw [List.mem_singleton.mp z]
      exact Nat.lt_succ_of_lt (Heap.lt_size hoL)
  have kk : ∀ b o, s1.heap.get? b = some o → h2.get? b = some o := fun b o x => kp b o (Nat.ne_of_lt (Heap.lt_size x)) (kOld b o x)
  refine ⟨.ref (s1.heap.push (revObj l0 ((vs0.toArray.size : Int) - 1))).objs.size, upd H1 (s1.heap.push (revObj l0 ((vs0.toArray.size : Int) - 1))).objs.size (.lst ys.reverse),
    J1.laid (t' := tk) kk szL (show ObjOk X.prog X.w _ _ _ (.lst ys.reverse) from ⟨by rw [List.length_reverse]; exact zL, ac.toList, c2, vals_rev rV it2, by rw [Array.toArray_toList]; exact e2⟩), rfl, q _ (J1.hok.fresh szL)⟩
theorem rgV_rev (a b : Int) : (rgV a b).reverse = (List.range (b - a).toNat).map fun (i : Nat) => V.int (a + (((b - a).toNat : Nat) : Int) - 1 + (i : Int) * (-1)) := by
  unfold rgV
  apply List.ext_getElem?
  intro i
  by_cases h : i < (b - a).toNat
  · rw [List.getElem?_reverse (by rw [List.length_map, List.length_range]; exact h), List.length_map, List.length_range, List.getElem?_map, List.getElem?_map, List.getElem?_range h, List.getElem?_range (by omega)]
    show some (V.int _) = some (V.int _)
    congr 2
    omega
  · rw [List.getElem?_eq_none (by rw [List.length_reverse, List.length_map, List.length_range]; omega), List.getElem?_eq_none (by rw [List.length_map, List.length_range]; omega)]
theorem pe_lstRevR {e : Expr} {te : L2.St → Hp → (Int → Int → Hp → Prop) → Prop} {p p2 pos pos2 : Pos} (hc : X.calm = true) (hg : Gl X "list") (mv : X.mg "list" = none) (hg2 : Gl X "reversed") (hm2 : X.mg "reversed" = none) (he : PRg X e te)
    (st1 : starEach [e] X.env = (false, eval e X.env) :: starEach [] X.env := by rfl)
    (st2 : starEach [.Call (.Name "reversed" p2) [e] [] pos2] X.env = (false, eval (.Call (.Name "reversed" p2) [e] [] pos2) X.env) :: starEach [] X.env := by rfl) :
    PE X (.Call (.Name "list" p) [.Call (.Name "reversed" p2) [e] [] pos2] [] pos) (tLstRevR te) := by
  refine ⟨fun pins s σ H Q I h => Call_ (ld_blt I hg mv boot_list (PyProof.Rows.callWith_type1 (args_cons (Call_ (ld_blt I hg2 hm2 PyProof.Rows.boot_reversed (PyProof.Rows.callWith_type1 (args_cons (thn (he pins s σ H _ I h) fun u0 s1 hx => args_nil ?_) st1) st1 rfl))) st2) st2 rfl))⟩
  obtain ⟨r, a, b, t, w1, v, H1, eu, hr, J1, ok, q⟩ := hx
  subst eu
  obtain ⟨b1, b2, b3, b4, b5⟩ := ok
  have hn : Builtin.Range.rangeSize a b 1 = (((b - a).toNat : Nat) : Int) := rangeSize_nat a b
  refine call_reversed_range hr (smallRev_one b1 b2 b3 b4) (args_nil ?_)
  have kOld : ∀ c o, s1.heap.get? c = some o → (s1.heap.push (rngRevObj a b 1)).get? c = some o := fun c o x => Heap.get?_push_of_some _ x
  have szL : s1.heap.objs.size ≤ (s1.heap.push (rngRevObj a b 1)).objs.size := by
    rw [Heap.size_push]
    exact Nat.le_succ _
  have st0 : IsRangeIter (s1.heap.push (rngRevObj a b 1)) s1.heap.objs.size (a + (((b - a).toNat : Nat) : Int) - 1 + ((0 : Nat) : Int) * (-1)) ((((b - a).toNat : Nat) : Int) - ((0 : Nat) : Int)) (-1) := by
    have e1 : a + (((b - a).toNat : Nat) : Int) - 1 + ((0 : Nat) : Int) * (-1) = a + (Builtin.Range.rangeSize a b 1 - 1) * 1 := by rw [hn]; omega
    have e2 : (((b - a).toNat : Nat) : Int) - ((0 : Nat) : Int) = Builtin.Range.rangeSize a b 1 := by rw [hn]; omega
    rw [e1, e2]
    exact Heap.get?_push_size _ rfl
  refine call_list_it (s := { s1 with heap := s1.heap.push (rngRevObj a b 1) }) (Walks.range (show X.A.in1.in1.handled = none from J1.ok.hd hc) s1.heap.objs.size (a + (((b - a).toNat : Nat) : Int) - 1) (-1) (b - a).toNat) ⟨_, Heap.get?_push_size _ rfl, rfl⟩ (.inr rfl) (hint_rgi _ (n := (b - a).toNat) (fun h x => by simpa using x) (by omega))
    st0 (by rw [sizeLine_eq]; omega) (fun c hc2 => ?_) fun h2 tk ac c2 kp e2 it2 => ?_
  · rw [Heap.size_push, List.mem_singleton.mp hc2]
    exact Nat.lt_succ_self _
  have kk : ∀ c o, s1.heap.get? c = some o → h2.get? c = some o := fun c o x => kp c o (Nat.ne_of_lt (Heap.lt_size x)) (kOld c o x)
  have hv : Vals (rgV a b).reverse ac.toList := by
    have el : ac.toList.length = (b - a).toNat := by rw [Array.length_toList]; exact it2.1
    rw [rgV_rev, ← el]
    refine vals_of_get ac.toList (fun (i : Nat) => V.int (a + ((ac.toList.length : Nat) : Int) - 1 + (i : Int) * (-1))) fun j u hj => ?_
    obtain ⟨tt, rfl⟩ := it2.2 j u (by rw [← hj, Array.getElem?_toList])
    exact ⟨tt, by rw [el]⟩
  refine ⟨.ref (s1.heap.push (rngRevObj a b 1)).objs.size, upd H1 (s1.heap.push (rngRevObj a b 1)).objs.size (.lst (rgV a b).reverse),
    J1.laid (t' := tk) kk szL (show ObjOk X.prog X.w _ _ _ (.lst (rgV a b).reverse) from ⟨by rw [List.length_reverse, rgV_length, sizeLine_eq]; omega, ac.toList, c2, hv, by rw [Array.toArray_toList]; exact e2⟩), rfl, q _ (J1.hok.fresh szL)⟩
theorem vals3 {x y z : V} {us : List Value} (r : Vals [x, y, z] us) : ∃ u1 u2 u3, us = [u1, u2, u3] ∧ RelV x u1 ∧ RelV y u2 ∧ RelV z u3 := by
  cases r with
  | cons r1 r =>
    cases r with
    | cons r2 r =>
      cases r with
      | cons r3 r =>
        cases r
        exact ⟨_, _, _, rfl, r1, r2, r3⟩
/-- list(range(a, b, c)): a new list -/
def tLstRg3 (ta : TA) : TE := fun σ H Q => ta σ H fun vs H1 => ∃ (i j c : Int) (n : Nat), vs = [.int i, .int j, .int c] ∧ RgC i j c n ∧ n ≤ 2 ^ 24 ∧ ∀ q, H1 q = none → Q (.ref q) (upd H1 q (.lst ((List.range n).map fun (k : Nat) => V.int (i + (k : Int) * c))))
theorem pe_listRg3 {a b d : Expr} {ta : TA} {p p2 pos pos2 : Pos} (hc : X.calm = true) (hg : Gl X "list") (mv : X.mg "list" = none) (hg2 : Gl X "range") (hm2 : X.mg "range" = none) (ha : PA X [a, b, d] ta)
    (st1 : starEach [a, b, d] X.env = (false, eval a X.env) :: starEach [b, d] X.env := by rfl) (pl1 : (backTo pos2 (starEach [b, d] X.env)).any (·.1) = false := by rfl)
    (st2 : starEach [.Call (.Name "range" p2) [a, b, d] [] pos2] X.env = (false, eval (.Call (.Name "range" p2) [a, b, d] [] pos2) X.env) :: starEach [] X.env := by rfl) :
    PE X (.Call (.Name "list" p) [.Call (.Name "range" p2) [a, b, d] [] pos2] [] pos) (tLstRg3 ta) := by
  refine ⟨fun pins s σ H Q I h => Call_ (ld_blt I hg mv boot_list (PyProof.Rows.callWith_type1 (args_cons (Call_ (ld_blt I hg2 hm2 boot_range (PyProof.Rows.callWith_type1 (thn (ha.run pos2 pins s σ H _ I h) fun us s1 ⟨vs, H1, J, rv, q0⟩ => ?_) st1 pl1))) st2) st2 rfl))⟩
  obtain ⟨i, j, c, n, e, ⟨c0, c1, c2, c3⟩, n24, q⟩ := q0
  subst e
  obtain ⟨u1, u2, u3, rfl, ⟨t1, rfl⟩, ⟨t2, rfl⟩, ⟨t3, rfl⟩⟩ := vals3 rv
  refine call_range_3 c0 (args_nil ?_) (.inl (PyProof.noPylong_small c1))
  have hr : IsRange (s1.heap.push { cls := .type "range", data := .fields #[.int i t1, .int j t2, .int c t3] }) s1.heap.objs.size i j c t1 t2 t3 := IsRange.new ..
  have J2 : Inv X pins σ H1 { s1 with heap := s1.heap.push { cls := .type "range", data := .fields #[.int i t1, .int j t2, .int c t3] } } := J.kept (t' := s1.toks) fun z o x => Heap.get?_push_of_some _ x
  refine call_list_range (n := n) (J.ok.hd hc) hr c2 c3 n24 fun h' tk acc c' kp e' hi => ?_
  have hv : Vals ((List.range n).map fun (k : Nat) => V.int (i + (k : Int) * c)) acc.toList := by
    have el : acc.toList.length = n := by rw [Array.length_toList]; exact hi.1
    rw [← el]
    refine vals_of_get acc.toList (fun (k : Nat) => V.int (i + (k : Int) * c)) fun z u hz => ?_
    obtain ⟨t, rfl⟩ := hi.2 z u (by rw [← hz, Array.getElem?_toList])
    exact ⟨t, rfl⟩
  have ob : ObjOk X.prog X.w (upd H1 (s1.heap.push { cls := .type "range", data := .fields #[.int i t1, .int j t2, .int c t3] }).objs.size (.lst ((List.range n).map fun (k : Nat) => V.int (i + (k : Int) * c)))) h' (s1.heap.push { cls := .type "range", data := .fields #[.int i t1, .int j t2, .int c t3] }).objs.size (.lst ((List.range n).map fun (k : Nat) => V.int (i + (k : Int) * c))) := by
    refine ⟨by rw [List.length_map, List.length_range, sizeLine_eq]; omega, acc.toList, c', hv, ?_⟩
    rw [Array.toArray_toList]
    exact e'
  have J3 := J2.laid (t' := tk) kp (Nat.le_refl _) ob
  have fr := J2.hok.fresh (Nat.le_refl _)
  exact ⟨.ref _, upd H1 _ (.lst _), J3, rfl, q _ fr⟩
end
end FL
namespace FL
open PySem PySem.Spec PyProof.Rows L2
/-! ## calls of the text's own defs -/
structure Cal (P : Program) (w : World) (K : PySem.W.Frag) (mg : Str → Option Value) (base : Heap) (x : Str) (k : Nat) (ps : List Str) (sp : Sp) : Prop where
  ex : ∃ (f : Addr) (fd : FuncData), FnOk P w K mg base (L2.CX P w) k f fd ps sp ∧ mg x = some (.ref f) ∧ PySem.W.keepIn K (.ref f) = true ∧ Binds K fd ps []
section
variable {X : Cx} {k j : Nat} {ps : List Str} {sp : Sp} {x : Str} {p pos : Pos} {e : Expr} {es : List Expr} {t : TA} {W : WX}
theorem pe_cal (G : Cal X.prog X.w X.K X.mg X.base x j ps sp) (hr : Room k X.A) (hj : j ≤ k) (tk : Takes X W) (hg : Gl X x) (ha : PA X (e :: es) t)
    (hdb : (x == ("__debug__" : Str)) = false := by decide) (he : starEach (e :: es) X.env = (false, eval e X.env) :: starEach es X.env := by rfl) (hpl : (backTo pos (starEach es X.env)).any (·.1) = false := by rfl) :
    PE X (.Call (.Name x p) (e :: es) [] pos) (tCallS sp (WE W) t) := by
  obtain ⟨f, fd, F, hm, hk, hb⟩ := G.ex
  exact pe_callS F (hr.mono hj) hg hm hk hb (fun σ => passAt tk σ) ha hdb he hpl
end
theorem tkOf {P : Program} {w : World} {K : PySem.W.Frag} {mg : Str → Option Value} {base : Heap} {N : List Str} {qual : Str} {scope : Scope} {f : Addr} {cd : Value} {A : Around} {outer : List Env} {s : Shared} {H : Hp} {E : XK} :
    Takes (cxOf (L2.CX P w) P w K mg base N qual scope f cd A outer s H E) (fun cls d _ H => E cls d H) := takes_of rfl rfl rfl rfl
/-! ## heaps -/
theorem Same.at {H H' : Hp} (s : Same H H') {a : Addr} {o : HO} (h : H a = some o) : H' a = some o := s a o h
theorem upd_old {H : Hp} {p a : Addr} {o u : HO} (hp : H p = none) (h : H a = some u) : upd H p o a = some u := by
  rw [upd_ne (ne_of_none h hp)]
  exact h
theorem upd_oth {H : Hp} {p a : Addr} {o u : HO} (hn : a ≠ p) (h : H a = some u) : upd H p o a = some u := by
  rw [upd_ne hn]
  exact h
theorem same_new {H0 H : Hp} {p : Addr} {o : HO} (s : Same H0 H) (hp : H p = none) : Same H0 (upd H p o) := fun b u e => upd_old hp (s b u e)
theorem same_mut {H0 H : Hp} {p : Addr} {o : HO} (s : Same H0 H) (hp : H0 p = none) : Same H0 (upd H p o) := fun b u e => upd_oth (ne_of_none e hp) (s b u e)
theorem ne_old {H : Hp} {a p : Addr} {o : HO} (hp : H p = none) (h : H a = some o) : a ≠ p := ne_of_none h hp
theorem ne_new {H : Hp} {a p : Addr} {o : HO} (hp : H p = none) (h : H a = some o) : p ≠ a := (ne_of_none h hp).symm
/-- a list that is read: sq -/
theorem sq_same {K : PySem.W.Frag} {H H' : Hp} {a : Addr} {xs : List V} (s : Same H H') (h : SqL K H a xs) : SqL K H' a xs := s.seq h
theorem frees {H0 H : Hp} {p : Addr} (s : Same H0 H) (h : H p = none) : H0 p = none := s.free h
theorem len_small {n : Nat} (h : n ≤ 100000) : n ≤ sizeLine := Nat.le_trans h (by decide)
theorem len_small' {n : Nat} (h : n < 100000) : n < sizeLine := Nat.lt_of_lt_of_le h (by decide)
theorem iteDT {c A B : Prop} [Decidable c] (hc : c) (h : A) : if decide c = true then A else B := by
  rw [decide_eq_true hc]
  exact iteT h
theorem iteDF {c A B : Prop} [Decidable c] (hc : ¬ c) (h : B) : if decide c = true then A else B := by
  rw [decide_eq_false hc]
  exact iteF h
theorem iteB {b : Bool} {A B : Prop} (h1 : b = true → A) (h2 : b = false → B) : if b = true then A else B := by
  cases b with
  | true => exact iteT (h1 rfl)
  | false => exact iteF (h2 rfl)
end FL
namespace FL
open PySem PySem.Spec PyProof.Rows L2
/-! ## data: lists of ints, lists of lists of ints -/
def D1 (ns : List Int) : PyData := .list (ns.map PyData.int)
def D2 (nss : List (List Int)) : PyData := .list (nss.map D1)
def DB (bs : List Bool) : PyData := .list (bs.map PyData.bool)
theorem eqv_D1s : ∀ ns ms : List Int, PyData.eqvAll (ns.map PyData.int) (ms.map PyData.int) = decide (ns = ms)
  | [], [] => by simp [PyData.eqvAll]
  | [], _ :: _ => by simp [PyData.eqvAll]
  | _ :: _, [] => by simp [PyData.eqvAll]
  | x :: xs, y :: ys => by
    rw [List.map_cons, List.map_cons, PyData.eqvAll, eqv_D1s xs ys, PyData.eqv]
    by_cases e : x = y
    · by_cases f : xs = ys
      · simp [e, f]
      · simp [e, f]
    · simp [e]
theorem eqv_D1 (ns ms : List Int) : PyData.eqv (D1 ns) (D1 ms) = decide (ns = ms) := by
  unfold D1
  rw [PyData.eqv]
  exact eqv_D1s ns ms
theorem eqv_D2s : ∀ ns ms : List (List Int), PyData.eqvAll (ns.map D1) (ms.map D1) = decide (ns = ms)
  | [], [] => by simp [PyData.eqvAll]
  | [], _ :: _ => by simp [PyData.eqvAll]
  | _ :: _, [] => by simp [PyData.eqvAll]
  | x :: xs, y :: ys => by
    rw [List.map_cons, List.map_cons, PyData.eqvAll, eqv_D2s xs ys, eqv_D1]
    by_cases e : x = y
    · by_cases f : xs = ys
      · simp [e, f]
      · simp [e, f]
    · simp [e]
theorem eqv_D2 (ns ms : List (List Int)) : PyData.eqv (D2 ns) (D2 ms) = decide (ns = ms) := by
  unfold D2
  rw [PyData.eqv]
  exact eqv_D2s ns ms
theorem eqv_DBs : ∀ ns ms : List Bool, PyData.eqvAll (ns.map PyData.bool) (ms.map PyData.bool) = decide (ns = ms)
  | [], [] => by simp [PyData.eqvAll]
  | [], _ :: _ => by simp [PyData.eqvAll]
  | _ :: _, [] => by simp [PyData.eqvAll]
  | x :: xs, y :: ys => by
    rw [List.map_cons, List.map_cons, PyData.eqvAll, eqv_DBs xs ys, PyData.eqv]
    by_cases e : x = y
    · by_cases f : xs = ys
      · simp [e, f]
      · simp [e, f]
    · simp [e]
theorem eqv_DB (ns ms : List Bool) : PyData.eqv (DB ns) (DB ms) = decide (ns = ms) := by
  unfold DB
  rw [PyData.eqv]
  exact eqv_DBs ns ms
theorem lay_D1s : ∀ ns : List Int, PyData.canLayAll0 (ns.map PyData.int) = true
  | [] => rfl
  | x :: xs => by
    rw [List.map_cons, PyData.canLayAll0, lay_D1s xs, PyData.canLay0]
    rfl
theorem depth_D1s : ∀ ns : List Int, PyData.depthAll (ns.map PyData.int) = 0
  | [] => rfl
  | x :: xs => by
    rw [List.map_cons, PyData.depthAll, depth_D1s xs, PyData.depth]
    rfl
theorem shaped_D1 (ns : List Int) : SeqAt.shaped (D1 ns) = true := by
  unfold SeqAt.shaped D1
  rw [PyData.canLay0, PyData.depth, lay_D1s, depth_D1s]
  rfl
theorem lay_DBs : ∀ ns : List Bool, PyData.canLayAll0 (ns.map PyData.bool) = true
  | [] => rfl
  | x :: xs => by
    rw [List.map_cons, PyData.canLayAll0, lay_DBs xs, PyData.canLay0]
    rfl
theorem depth_DBs : ∀ ns : List Bool, PyData.depthAll (ns.map PyData.bool) = 0
  | [] => rfl
  | x :: xs => by
    rw [List.map_cons, PyData.depthAll, depth_DBs xs, PyData.depth]
    rfl
theorem shaped_DB (ns : List Bool) : SeqAt.shaped (DB ns) = true := by
  unfold SeqAt.shaped DB
  rw [PyData.canLay0, PyData.depth, lay_DBs, depth_DBs]
  rfl
theorem lay_D2s : ∀ ns : List (List Int), PyData.canLayAll0 (ns.map D1) = true
  | [] => rfl
  | x :: xs => by
    rw [List.map_cons, PyData.canLayAll0, lay_D2s xs]
    unfold D1
    rw [PyData.canLay0, lay_D1s]
    rfl
theorem depth_D2s : ∀ ns : List (List Int), PyData.depthAll (ns.map D1) ≤ 1
  | [] => Nat.zero_le _
  | x :: xs => by
    have h := depth_D2s xs
    rw [List.map_cons, PyData.depthAll]
    unfold D1
    rw [PyData.depth, depth_D1s]
    unfold D1 at h
    omega
theorem shaped_D2 (ns : List (List Int)) : SeqAt.shaped (D2 ns) = true := by
  unfold SeqAt.shaped D2
  rw [PyData.canLay0, PyData.depth, lay_D2s]
  have h := depth_D2s ns
  simp
  omega
section
variable {K : PySem.W.Frag} {H : Hp}
theorem dp_ints : ∀ ns : List Int, DpAll K H (ns.map V.int) (ns.map PyData.int)
  | [] => .nil
  | x :: xs => .cons (.int x) (dp_ints xs)
theorem dp_bls : ∀ ns : List Bool, DpAll K H (ns.map V.bl) (ns.map PyData.bool)
  | [] => .nil
  | x :: xs => .cons (.bl x) (dp_bls xs)
theorem dp_D1 {p : Addr} {ns : List Int} (h : SqL K H p (ns.map V.int)) : Dp K H (.ref p) (D1 ns) := .lst h (dp_ints ns)
theorem dp_DB {p : Addr} {ns : List Bool} (h : SqL K H p (ns.map V.bl)) : Dp K H (.ref p) (DB ns) := .lst h (dp_bls ns)
/-- a list of lists: the items one by one -/
theorem dp_D2 {p : Addr} {vs : List V} {nss : List (List Int)} (h : SqL K H p vs) (a : DpAll K H vs (nss.map D1)) : Dp K H (.ref p) (D2 nss) := .lst h a
theorem eq1 {Q : VK} {p q : Addr} {ns ms : List Int} (h1 : SqL K H p (ns.map V.int)) (h2 : SqL K H q (ms.map V.int)) (k : Q (.bl (decide (ns = ms))) H) : rEqD K (.ref p) (.ref q) H Q :=
  ⟨_, _, dp_D1 h1, dp_D1 h2, shaped_D1 _, shaped_D1 _, by rw [eqv_D1]; exact k⟩
theorem ne1 {Q : VK} {p q : Addr} {ns ms : List Int} (h1 : SqL K H p (ns.map V.int)) (h2 : SqL K H q (ms.map V.int)) (k : Q (.bl (!decide (ns = ms))) H) : rNeD K (.ref p) (.ref q) H Q :=
  ⟨_, _, dp_D1 h1, dp_D1 h2, shaped_D1 _, shaped_D1 _, by rw [eqv_D1]; exact k⟩
theorem eqB {Q : VK} {p q : Addr} {ns ms : List Bool} (h1 : SqL K H p (ns.map V.bl)) (h2 : SqL K H q (ms.map V.bl)) (k : Q (.bl (decide (ns = ms))) H) : rEqD K (.ref p) (.ref q) H Q :=
  ⟨_, _, dp_DB h1, dp_DB h2, shaped_DB _, shaped_DB _, by rw [eqv_DB]; exact k⟩
theorem neB {Q : VK} {p q : Addr} {ns ms : List Bool} (h1 : SqL K H p (ns.map V.bl)) (h2 : SqL K H q (ms.map V.bl)) (k : Q (.bl (!decide (ns = ms))) H) : rNeD K (.ref p) (.ref q) H Q :=
  ⟨_, _, dp_DB h1, dp_DB h2, shaped_DB _, shaped_DB _, by rw [eqv_DB]; exact k⟩
theorem eq2 {Q : VK} {p q : Addr} {vs us : List V} {ns ms : List (List Int)} (h1 : SqL K H p vs) (a1 : DpAll K H vs (ns.map D1)) (h2 : SqL K H q us) (a2 : DpAll K H us (ms.map D1)) (k : Q (.bl (decide (ns = ms))) H) : rEqD K (.ref p) (.ref q) H Q :=
  ⟨_, _, dp_D2 h1 a1, dp_D2 h2 a2, shaped_D2 _, shaped_D2 _, by rw [eqv_D2]; exact k⟩
theorem ne2 {Q : VK} {p q : Addr} {vs us : List V} {ns ms : List (List Int)} (h1 : SqL K H p vs) (a1 : DpAll K H vs (ns.map D1)) (h2 : SqL K H q us) (a2 : DpAll K H us (ms.map D1)) (k : Q (.bl (!decide (ns = ms))) H) : rNeD K (.ref p) (.ref q) H Q :=
  ⟨_, _, dp_D2 h1 a1, dp_D2 h2 a2, shaped_D2 _, shaped_D2 _, by rw [eqv_D2]; exact k⟩
end
section
variable {K : PySem.W.Frag} {H : Hp}
theorem eq1E {Q : VK} {p q : Addr} {ns : List Int} (h1 : SqL K H p (ns.map V.int)) (h2 : SqL K H q (ns.map V.int)) (k : Q (.bl true) H) : rEqD K (.ref p) (.ref q) H Q := eq1 h1 h2 (by rw [decide_eq_true rfl]; exact k)
theorem ne1E {Q : VK} {p q : Addr} {ns : List Int} (h1 : SqL K H p (ns.map V.int)) (h2 : SqL K H q (ns.map V.int)) (k : Q (.bl false) H) : rNeD K (.ref p) (.ref q) H Q := ne1 h1 h2 (by rw [decide_eq_true rfl]; exact k)
theorem eq2E {Q : VK} {p q : Addr} {vs us : List V} {ns : List (List Int)} (h1 : SqL K H p vs) (a1 : DpAll K H vs (ns.map D1)) (h2 : SqL K H q us) (a2 : DpAll K H us (ns.map D1)) (k : Q (.bl true) H) : rEqD K (.ref p) (.ref q) H Q :=
  eq2 h1 a1 h2 a2 (by rw [decide_eq_true rfl]; exact k)
theorem ne2E {Q : VK} {p q : Addr} {vs us : List V} {ns : List (List Int)} (h1 : SqL K H p vs) (a1 : DpAll K H vs (ns.map D1)) (h2 : SqL K H q us) (a2 : DpAll K H us (ns.map D1)) (k : Q (.bl false) H) : rNeD K (.ref p) (.ref q) H Q :=
  ne2 h1 a1 h2 a2 (by rw [decide_eq_true rfl]; exact k)
end
/-! ## the ints 1 .. n -/
def upto (n : Nat) : List Int := (List.range n).map fun (i : Nat) => 1 + (i : Int)
theorem upto_length (n : Nat) : (upto n).length = n := by unfold upto; rw [List.length_map, List.length_range]
theorem rgV_upto (n : Nat) (b : Int) (e : b = (n : Int) + 1) : rgV 1 b = (upto n).map V.int := by
  unfold rgV upto
  have e2 : (b - 1).toNat = n := by omega
  rw [e2, List.map_map]
  rfl
theorem upto_get {n i : Nat} (h : i < n) : (upto n)[i]? = some (1 + (i : Int)) := by
  unfold upto
  rw [List.getElem?_map, List.getElem?_range h]
  rfl
theorem upto_sorted (n : Nat) : (upto n).Pairwise (· ≤ ·) := by
  unfold upto
  rw [List.pairwise_map]
  exact List.Pairwise.imp (fun h => by omega) List.pairwise_lt_range
theorem upto_lt (n : Nat) : (upto n).Pairwise (· < ·) := by
  unfold upto
  rw [List.pairwise_map]
  exact List.Pairwise.imp (fun h => by omega) List.pairwise_lt_range
theorem upto_nodup (n : Nat) : (upto n).Nodup := List.Pairwise.imp (fun h => by omega) (upto_lt n)
theorem upto_mem {n : Nat} {x : Int} : x ∈ upto n ↔ 1 ≤ x ∧ x ≤ n := by
  unfold upto
  rw [List.mem_map]
  constructor
  · rintro ⟨i, hi, rfl⟩
    have := List.mem_range.mp hi
    omega
  · rintro ⟨h1, h2⟩
    exact ⟨(x - 1).toNat, List.mem_range.mpr (by omega), by omega⟩
theorem sorted_unique : ∀ {l m : List Int}, l.Perm m → l.Pairwise (· ≤ ·) → m.Pairwise (· ≤ ·) → l = m
  | [], m, p, _, _ => (List.Perm.nil_eq p)
  | x :: l, [], p, _, _ => absurd p.length_eq (by simp)
  | x :: l, y :: m, p, h1, h2 => by
    have hx := List.pairwise_cons.mp h1
    have hy := List.pairwise_cons.mp h2
    have e : x = y := by
      have mx : x ∈ y :: m := p.mem_iff.mp List.mem_cons_self
      have my : y ∈ x :: l := p.mem_iff.mpr List.mem_cons_self
      rcases List.mem_cons.mp mx with e | mx
      · exact e
      · rcases List.mem_cons.mp my with e | my
        · exact e.symm
        · have a := hy.1 x mx
          have b := hx.1 y my
          omega
    subst e
    rw [sorted_unique (List.Perm.cons_inv p) hx.2 hy.2]
/-- a plain pile -/
def IsPile (ns : List Int) : Prop := 1 ≤ ns.length ∧ ns.length ≤ 12 ∧ ns.Perm (upto ns.length)
theorem IsPile.mem {ns : List Int} (h : IsPile ns) {x : Int} : x ∈ ns ↔ 1 ≤ x ∧ x ≤ ns.length := h.2.2.mem_iff.trans upto_mem
theorem IsPile.nodup {ns : List Int} (h : IsPile ns) : ns.Nodup := h.2.2.nodup_iff.mpr (upto_nodup _)
def iabs (x : Int) : Int := if x < 0 then -x else x
theorem iabs_neg (x : Int) : iabs (-x) = iabs x := by
  unfold iabs
  split <;> split <;> omega
theorem iabs_nn (x : Int) : 0 ≤ iabs x := by
  unfold iabs
  split <;> omega
theorem iabs_cases (x : Int) : x = iabs x ∨ x = -iabs x := by
  unfold iabs
  split <;> omega
theorem iabs_pos {x : Int} (h : 0 ≤ x) : iabs x = x := by
  unfold iabs
  split <;> omega
def IsBurnt (ns : List Int) : Prop := IsPile (ns.map iabs)
theorem IsPile.abs {ns : List Int} (h : IsPile ns) : ns.map iabs = ns := by
  have : ns.map iabs = ns.map id := List.map_congr_left fun x hx => iabs_pos (by have := (h.mem.mp hx).1; omega)
  rw [this, List.map_id]
theorem signed_burnt {ns bs : List Int} (h : IsPile ns) (e : bs.map iabs = ns.map iabs) : IsBurnt bs := by
  unfold IsBurnt
  rw [e, h.abs]
  exact h
theorem burnt_len {bs : List Int} (h : IsBurnt bs) : 1 ≤ bs.length ∧ bs.length ≤ 12 := by
  have h1 := h.1
  have h2 := h.2.1
  rw [List.length_map] at h1 h2
  exact ⟨h1, h2⟩
theorem burnt_mem {bs : List Int} (h : IsBurnt bs) {x : Int} (hx : x ∈ bs) : -12 ≤ x ∧ x ≤ 12 := by
  have := (IsPile.mem h).mp (List.mem_map_of_mem (f := iabs) hx)
  have h2 := (burnt_len h).2
  rw [List.length_map] at this
  have := iabs_cases x
  omega
/-- what an exception's class is -/
structure Exn (K : PySem.W.Frag) (mg : Str → Option Value) (x : Str) (C : Addr) : Prop where
  g : mg x = some (.ref C)
  x : PySem.W.excIn K C [.type "ValueError", .type "Exception", .type "BaseException", .type "object"] "ValueError.__new__" = true
  k : PySem.W.keepIn K (.ref C) = true
  b : PySem.W.subIn K (.ref C) (.type "BaseException") = some true
  t : PySem.W.typeIn K (.ref C) = some (.type "type")
structure ExA where
  FlipError : Addr
  NoPile : Addr
  NoTurn : Addr
  TooTall : Addr
  NoBack : Addr
  BadLine : Addr
  Stack : Addr
/-- a promise's answer: a new list of ints -/
def RL (H : Hp) (ns : List Int) (Q : VK) : Prop := ∀ (p : Addr) (H' : Hp), Same H H' → H p = none → H' p = some (.lst (ns.map V.int)) → Q (.ref p) H'
/-- an answer that is a value, or nothing -/
def RV (H : Hp) (v : V) (Q : VK) : Prop := ∀ H' : Hp, Same H H' → Q v H'
def RX (H : Hp) (C : Addr) (E : XK) : Prop := ∀ H' : Hp, Same H H' → E (.ref C) none H'
theorem getInt {ns : List Int} {i : Nat} {y : V} (h : (ns.map V.int)[i]? = some y) : ∃ z, ns[i]? = some z ∧ y = V.int z ∧ i < ns.length := by
  rw [List.getElem?_map] at h
  cases e : ns[i]? with
  | none =>
    rw [e] at h
    cases h
  | some z =>
    rw [e] at h
    exact ⟨z, rfl, (Option.some.inj h).symm, (List.getElem?_eq_some_iff.mp e).1⟩
theorem setInt {ns : List Int} {i : Nat} {z : Int} (h : ns[i]? = some z) : (ns.map V.int)[i]? = some (V.int z) := by
  rw [List.getElem?_map, h]
  rfl
def pflip (ns : List Int) (k : Nat) : List Int := (ns.take k).reverse ++ ns.drop k
theorem pflip_length (ns : List Int) (k : Nat) : (pflip ns k).length = ns.length := by
  unfold pflip
  rw [List.length_append, List.length_reverse, List.length_take, List.length_drop]
  omega
theorem pflip_perm (ns : List Int) (k : Nat) : (pflip ns k).Perm ns := by
  unfold pflip
  exact ((List.reverse_perm _).append_right _).trans (by rw [List.take_append_drop])
def bflip (ns : List Int) (k : Nat) : List Int := (ns.take k).reverse.map (fun x => -x) ++ ns.drop k
theorem bflip_length (ns : List Int) (k : Nat) : (bflip ns k).length = ns.length := by
  unfold bflip
  rw [List.length_append, List.length_map, List.length_reverse, List.length_take, List.length_drop]
  omega
theorem signed_len {ns bs : List Int} (e : bs.map iabs = ns.map iabs) : bs.length = ns.length := by
  have := congrArg List.length e
  rw [List.length_map, List.length_map] at this
  exact this
theorem pflip_pile {ns : List Int} {k : Nat} (h : IsPile ns) : IsPile (pflip ns k) := by
  unfold IsPile
  rw [pflip_length]
  exact ⟨h.1, h.2.1, (pflip_perm ns k).trans h.2.2⟩
theorem bflip_abs (ns : List Int) (k : Nat) : (bflip ns k).map iabs = pflip (ns.map iabs) k := by
  have e : (ns.take k).reverse.map (iabs ∘ fun x => -x) = (ns.take k).reverse.map iabs := List.map_congr_left fun x _ => iabs_neg x
  unfold bflip pflip
  rw [List.map_append, List.map_map, e, List.map_reverse, List.map_take, List.map_drop]
theorem bflip_burnt {ns : List Int} {k : Nat} (h : IsBurnt ns) : IsBurnt (bflip ns k) := by
  unfold IsBurnt
  rw [bflip_abs]
  exact pflip_pile h
def tflip (b : Bool) (ns : List Int) (k : Nat) : List Int := if b = true then bflip ns k else pflip ns k
theorem tflip_length (b : Bool) (ns : List Int) (k : Nat) : (tflip b ns k).length = ns.length := by
  unfold tflip
  split
  · exact bflip_length ns k
  · exact pflip_length ns k
theorem turned_eq (b : Bool) (ns : List Int) (k : Nat) (h : k ≤ ns.length) :
    (List.range k).map (fun j => V.int ((if b = true then -1 else 1) * ns.getD (k - 1 - j) 0)) ++ (ns.drop k).map V.int = (tflip b ns k).map V.int := by
  have key : ∀ f : Int → Int, (∀ x, (if b = true then -1 else 1) * x = f x) → (List.range k).map (fun j => V.int ((if b = true then -1 else 1) * ns.getD (k - 1 - j) 0)) = ((ns.take k).reverse.map f).map V.int := by
    intro f hf
    apply List.ext_getElem?
    intro i
    by_cases hi : i < k
    · have h1 : k - 1 - i < ns.length := by omega
      rw [List.getElem?_map, List.getElem?_range hi, List.getElem?_map, List.getElem?_map, List.getElem?_reverse (by rw [List.length_take]; omega), List.length_take, Nat.min_eq_left h, List.getElem?_take, if_pos (show k - 1 - i < k by omega),
        List.getElem?_eq_getElem h1, Option.map_some, Option.map_some, Option.map_some, List.getD_eq_getElem?_getD, List.getElem?_eq_getElem h1, hf]
      rfl
    · rw [List.getElem?_eq_none (by rw [List.length_map, List.length_range]; omega), List.getElem?_eq_none (by rw [List.length_map, List.length_map, List.length_reverse, List.length_take]; omega)]
  unfold tflip
  cases b with
  | true =>
    rw [key (fun x => -x) (fun x => by simp), if_pos rfl, bflip, List.map_append]
  | false =>
    rw [key (fun x => x) (fun x => by simp), if_neg Bool.false_ne_true, pflip, List.map_append, List.map_id']
def sp_law (K : PySem.W.Frag) : Sp := fun vs H Q _ => ∃ (a : Addr) (ns : List Int), vs = [.ref a] ∧ SqL K H a (ns.map V.int) ∧ ns.length ≤ 63 ∧ ∀ H', Q (.bl true) H'
theorem arg3 {a z : V} {x y : Int} (e : x = y) : [a, V.int x, z] = [a, V.int y, z] := by rw [e]
end FL
namespace FL
open PySem PySem.Spec PyProof.Rows L2
open Evl (given given_yes given_no given_len)
/-! ## what is walked, over a heap of which a part stays -/
structure ItIs (J : It) (n : Nat) (y : Nat → V) (H1 : Hp) : Prop where
  go : ∀ i H, Same H1 H → i < n → J.go i H
  stop : ∀ i H, Same H1 H → n ≤ i → J.stop i H
  yld : ∀ i H x H', Same H1 H → i < n → J.yld i H x H' → H' = H ∧ x = y i
theorem itl {K : PySem.W.Frag} {a : Addr} {xs : List V} {H1 : Hp} (h : SqL K H1 a xs) : ItIs (Itl K a) xs.length (fun i => xs.getD i .non) H1 where
  go := fun i H s hi => ⟨xs, xs[i], s.seq h, by simp [hi]⟩
  stop := fun i H s hi => ⟨xs, s.seq h, hi⟩
  yld := fun i H x H' s hi y => ⟨y.1, by
    have e := y.2 xs (s.seq h)
    rw [List.getD_eq_getElem?_getD, e]
    rfl⟩
theorem itl_ints {K : PySem.W.Frag} {a : Addr} {ns : List Int} {H1 : Hp} (h : SqL K H1 a (ns.map V.int)) : ItIs (Itl K a) ns.length (fun i => V.int (ns.getD i 0)) H1 where
  go := fun i H s hi => ⟨_, V.int ns[i], s.seq h, by simp [hi]⟩
  stop := fun i H s hi => ⟨_, s.seq h, by rw [List.length_map]; exact hi⟩
  yld := fun i H x H' s hi y => ⟨y.1, by
    have e := y.2 _ (s.seq h)
    rw [List.getElem?_map, List.getElem?_eq_getElem hi] at e
    rw [List.getD_eq_getElem?_getD, List.getElem?_eq_getElem hi]
    exact (Option.some.inj e).symm⟩
theorem itv_ints {K : PySem.W.Frag} {a : Addr} {ns : List Int} {m : Nat} {H1 : Hp} (h : SqL K H1 a (ns.map V.int)) (hm : m = ns.length) : ItIs (Itv K a m) ns.length (fun i => V.int (ns.reverse.getD i 0)) H1 where
  go := fun i H s hi => ⟨by omega, _, V.int (ns[ns.length - 1 - i]'(by omega)), s.seq h, by
    rw [hm]
    simp [show ns.length - 1 - i < ns.length by omega]⟩
  stop := fun i H s hi => by
    show m ≤ i
    omega
  yld := fun i H x H' s hi y => ⟨y.1, by
    have hj : ns.length - 1 - i < ns.length := by omega
    have e := y.2 _ (s.seq h)
    rw [hm, List.getElem?_map, List.getElem?_eq_getElem hj] at e
    rw [List.getD_eq_getElem?_getD, List.getElem?_reverse hi, List.getElem?_eq_getElem hj]
    exact (Option.some.inj e).symm⟩
theorem itr {lo : Int} {n : Nat} {H1 : Hp} : ItIs (Itr lo n) n (fun i => .int (lo + (i : Nat))) H1 where
  go := fun i H s hi => hi
  stop := fun i H s hi => hi
  yld := fun i H x H' s hi y => y
theorem itc {lo c : Int} {n : Nat} {H1 : Hp} : ItIs (Itc lo c n) n (fun i => .int (lo + (i : Nat) * c)) H1 where
  go := fun i H s hi => hi
  stop := fun i H s hi => hi
  yld := fun i H x H' s hi y => y
/-- a for -/
theorem for_it {J : It} {n : Nat} {y : Nat → V} {H1 : Hp} {g : TG} {tb : TS} {D : Ends} {σ : L2.St} {H : Hp} (I : ItIs J n y H1) (Pv : Nat → L2.St → Hp → Prop) (h0 : Pv 0 σ H) (hS : ∀ i σ H, Pv i σ H → Same H1 H)
    (hs : ∀ i σ H, i < n → Pv i σ H → g (y i) σ H fun σ2 H2 => tb { D with nx := Pv (i + 1), ct := Pv (i + 1), bk := D.nx } σ2 H2) (hd : ∀ σ H, Pv n σ H → D.nx σ H) :
    ∃ W : Nat → Nat → L2.St → Hp → Prop, (∃ m, W 0 m σ H) ∧ ∀ i m σ H, W i m σ H →
      (J.stop i H ∧ D.nx σ H) ∨ (J.go i H ∧ ∃ N : L2.St → Hp → Prop, (∀ σ' H', N σ' H' → ∃ m', m' < m ∧ W (i + 1) m' σ' H') ∧ ∀ v H', J.yld i H v H' → g v σ H' fun σ2 H2 => tb { D with nx := N, ct := N, bk := D.nx } σ2 H2) := by
  refine ⟨fun i m σ H => m = n - i ∧ i ≤ n ∧ Pv i σ H, ⟨n, rfl, Nat.zero_le _, h0⟩, ?_⟩
  rintro i m σ H ⟨rfl, hi, p⟩
  by_cases hlt : i < n
  · refine .inr ⟨I.go i H (hS _ _ _ p) hlt, Pv (i + 1), fun σ' H' p' => ⟨n - (i + 1), by omega, rfl, hlt, p'⟩, fun v H' yy => ?_⟩
    obtain ⟨e, e2⟩ := I.yld i H v H' (hS _ _ _ p) hlt yy
    subst e e2
    exact hs i σ _ hlt p
  · have e : i = n := by omega
    subst e
    exact .inl ⟨I.stop _ H (hS _ _ _ p) (Nat.le_refl _), hd σ H p⟩
theorem given_all (n : Nat) (v : Nat → V) : given n (fun _ => true) v = (List.range n).map v := by
  unfold given
  rw [List.filter_eq_self.mpr (fun _ _ => rfl)]
theorem given_ints (ns : List Int) (f : Int → Int) : given ns.length (fun _ => true) (fun j => V.int (f (ns.getD j 0))) = (ns.map f).map V.int := by
  rw [given_all]
  apply List.ext_getElem?
  intro i
  by_cases h : i < ns.length
  · rw [List.getElem?_map, List.getElem?_range h, List.getElem?_map, List.getElem?_map, List.getElem?_eq_getElem h, Option.map_some, Option.map_some, Option.map_some, List.getD_eq_getElem?_getD, List.getElem?_eq_getElem h]
    rfl
  · rw [List.getElem?_eq_none (by rw [List.length_map, List.length_range]; omega), List.getElem?_eq_none (by rw [List.length_map, List.length_map]; omega)]
/-- a comprehension, its name in slot k -/
theorem lc_it {J : It} {n : Nat} {y : Nat → V} {H1 Hs : Hp} {k : Nat} {tt : TT} {te : TE} {σ : L2.St} {D : Addr} {Qd : Hp → Prop} (I : ItIs J n y H1) (hD : Hs D = none) (s0 : Same H1 Hs) (hn : n ≤ 100000) (b : Nat → Bool) (r : Nat → V)
    (ht : ∀ (j : Nat) (H : Hp) (Q : Bool → Hp → Prop), j < n → Same Hs H → (∀ H', Same H H' → Q (b j) H') → tt (σ.set k (some (y j))) H Q)
    (he : ∀ (j : Nat) (H : Hp) (Q : VK), j < n → b j = true → Same Hs H → (∀ H', Same H H' → Q (r j) H') → te (σ.set k (some (y j))) H Q)
    (hd : ∀ H', Same Hs H' → H' D = some (.lst (given n b r)) → Qd H') :
    ∃ W : Nat → Nat → Hp → Prop, (∃ m, W 0 m (upd Hs D (.lst []))) ∧ ∀ i m H, W i m H →
      (J.stop i H ∧ Qd H) ∨ (J.go i H ∧ ∃ Nx : Hp → Prop, (∀ H', Nx H' → ∃ m', m' < m ∧ W (i + 1) m' H') ∧ ∀ x H', J.yld i H x H' → gName k x (wipe σ [k]) H' fun σ2 H2 => wipe σ2 [k] = wipe σ [k] ∧ tt σ2 H2 fun b H3 =>
        if b = true then te σ2 H3 fun y H4 => ∃ acc, H4 D = some (.lst acc) ∧ acc.length < sizeLine ∧ Nx (upd H4 D (.lst (acc ++ [y]))) else Nx H3) := by
  have ew : ∀ v : Option V, (wipe σ [k]).set k v = σ.set k v := fun v => by
    show (σ.set k none).set k v = σ.set k v
    rw [List.set_set]
  refine ⟨fun i m H => m = n - i ∧ i ≤ n ∧ Same Hs H ∧ H D = some (.lst (given i b r)), ⟨n, rfl, Nat.zero_le _, same_new (Same.refl _) hD, upd_same⟩, ?_⟩
  rintro i m H ⟨rfl, hi, sH, hL⟩
  by_cases hlt : i < n
  · refine .inr ⟨I.go i H (s0.trans sH) hlt, fun H' => Same Hs H' ∧ H' D = some (.lst (given (i + 1) b r)), fun H' p' => ⟨n - (i + 1), by omega, rfl, hlt, p'⟩, fun v H' yy => ?_⟩
    obtain ⟨e, e2⟩ := I.yld i H v H' (s0.trans sH) hlt yy
    subst e e2
    unfold gName
    rw [ew]
    refine ⟨by show (σ.set k (some (y i))).set k none = σ.set k none; rw [List.set_set], ht i H' _ hlt sH fun H2 s2 => ?_⟩
    cases hb : b i with
    | true =>
      refine iteT (he i H2 _ hlt hb (sH.trans s2) fun H3 s3 => ?_)
      refine ⟨given i b r, s3 _ _ (s2 _ _ hL), len_small' (by have := given_len i b r; omega), same_mut ((sH.trans s2).trans s3) hD, ?_⟩
      rw [given_yes hb]
      exact upd_same
    | false =>
      refine iteF ⟨sH.trans s2, ?_⟩
      rw [given_no hb]
      exact s2 _ _ hL
  · have e : i = n := by omega
    subst e
    exact .inl ⟨I.stop _ H (s0.trans sH) (Nat.le_refl _), hd H sH hL⟩
/-- no test -/
theorem lc_yes {J : It} {n : Nat} {y : Nat → V} {H1 Hs : Hp} {k : Nat} {te : TE} {σ : L2.St} {D : Addr} {Qd : Hp → Prop} (I : ItIs J n y H1) (hD : Hs D = none) (s0 : Same H1 Hs) (hn : n ≤ 100000) (r : Nat → V)
    (he : ∀ (j : Nat) (H : Hp) (Q : VK), j < n → Same Hs H → (∀ H', Same H H' → Q (r j) H') → te (σ.set k (some (y j))) H Q)
    (hd : ∀ H', Same Hs H' → H' D = some (.lst ((List.range n).map r)) → Qd H') :
    ∃ W : Nat → Nat → Hp → Prop, (∃ m, W 0 m (upd Hs D (.lst []))) ∧ ∀ i m H, W i m H →
      (J.stop i H ∧ Qd H) ∨ (J.go i H ∧ ∃ Nx : Hp → Prop, (∀ H', Nx H' → ∃ m', m' < m ∧ W (i + 1) m' H') ∧ ∀ x H', J.yld i H x H' → gName k x (wipe σ [k]) H' fun σ2 H2 => wipe σ2 [k] = wipe σ [k] ∧ tYes σ2 H2 fun b H3 =>
        if b = true then te σ2 H3 fun y H4 => ∃ acc, H4 D = some (.lst acc) ∧ acc.length < sizeLine ∧ Nx (upd H4 D (.lst (acc ++ [y]))) else Nx H3) :=
  lc_it I hD s0 hn (fun _ => true) r (fun _ H Q _ _ q => q H (Same.refl H)) (fun j H Q h1 _ h2 q => he j H Q h1 h2 q) fun H' s h => hd H' s (by rw [← given_all]; exact h)
theorem map_ints (ns : List Int) (f : Int → Int) : (List.range ns.length).map (fun j => V.int (f (ns.getD j 0))) = (ns.map f).map V.int := by
  rw [← given_all]
  exact given_ints ns f
theorem itv_rev {K : PySem.W.Frag} {a : Addr} {ns : List Int} {m : Nat} {H1 : Hp} (h : SqL K H1 a (ns.map V.int)) (hm : m = ns.length) : ItIs (Itv K a m) ns.reverse.length (fun i => V.int (ns.reverse.getD i 0)) H1 := by
  rw [List.length_reverse]
  exact itv_ints h hm
/-- an element of each int of a list, the ints of the answer told -/
theorem lc_map {J : It} {ns : List Int} {H1 Hs : Hp} {k : Nat} {te : TE} {σ : L2.St} {D : Addr} {Qd : Hp → Prop} (I : ItIs J ns.length (fun i => V.int (ns.getD i 0)) H1) (hD : Hs D = none) (s0 : Same H1 Hs) (hn : ns.length ≤ 100000) (f : Int → Int)
    (he : ∀ (x : Int) (H : Hp) (Q : VK), x ∈ ns → Same Hs H → (∀ H', Same H H' → Q (.int (f x)) H') → te (σ.set k (some (.int x))) H Q)
    (hd : ∀ H', Same Hs H' → H' D = some (.lst ((ns.map f).map V.int)) → Qd H') :
    ∃ W : Nat → Nat → Hp → Prop, (∃ m, W 0 m (upd Hs D (.lst []))) ∧ ∀ i m H, W i m H →
      (J.stop i H ∧ Qd H) ∨ (J.go i H ∧ ∃ Nx : Hp → Prop, (∀ H', Nx H' → ∃ m', m' < m ∧ W (i + 1) m' H') ∧ ∀ x H', J.yld i H x H' → gName k x (wipe σ [k]) H' fun σ2 H2 => wipe σ2 [k] = wipe σ [k] ∧ tYes σ2 H2 fun b H3 =>
        if b = true then te σ2 H3 fun y H4 => ∃ acc, H4 D = some (.lst acc) ∧ acc.length < sizeLine ∧ Nx (upd H4 D (.lst (acc ++ [y]))) else Nx H3) :=
  lc_yes I hD s0 hn (fun j => V.int (f (ns.getD j 0))) (fun j H Q hj s q => he _ H Q (by
    rw [List.getD_eq_getElem?_getD, List.getElem?_eq_getElem hj]
    exact List.getElem_mem hj) s q) fun H' s e => hd H' s (by rw [← map_ints]; exact e)
/-- slices of lists -/
theorem cut_to (xs : List V) (k : Nat) : cutV xs none (some (k : Int)) = xs.take k := by
  unfold cutV
  rw [HT.sIx_nat, HT.sIx_none, List.drop_zero, Nat.sub_zero]
  rcases Nat.le_total k xs.length with h | h
  · rw [Nat.min_eq_left h]
  · rw [Nat.min_eq_right h, List.take_of_length_le (Nat.le_refl _), List.take_of_length_le h]
theorem cut_from (xs : List V) (k : Nat) : cutV xs (some (k : Int)) none = xs.drop k := by
  unfold cutV
  rw [HT.sIx_nat, HT.sIx_none]
  rcases Nat.le_total k xs.length with h | h
  · rw [Nat.min_eq_left h, List.take_of_length_le (by rw [List.length_drop]; omega)]
  · rw [Nat.min_eq_right h, List.drop_of_length_le (Nat.le_refl _), List.drop_of_length_le h]
    simp
theorem cut_mid (xs : List V) (j k : Nat) : cutV xs (some (j : Int)) (some (k : Int)) = (xs.drop j).take (k - j) := by
  unfold cutV
  rw [HT.sIx_nat, HT.sIx_nat]
  rcases Nat.le_total j xs.length with h | h
  · rw [Nat.min_eq_left h]
    rcases Nat.le_total k xs.length with h2 | h2
    · rw [Nat.min_eq_left h2]
    · rw [Nat.min_eq_right h2, List.take_of_length_le (by rw [List.length_drop] <;> omega), List.take_of_length_le (by rw [List.length_drop]; omega)]
  · rw [Nat.min_eq_right h, List.drop_of_length_le (Nat.le_refl _), List.drop_of_length_le h]
    simp
theorem cutI_to (ns : List Int) (k : Nat) : cutV (ns.map V.int) none (some (k : Int)) = (ns.take k).map V.int := by rw [cut_to, List.map_take]
theorem cutI_from (ns : List Int) (k : Nat) : cutV (ns.map V.int) (some (k : Int)) none = (ns.drop k).map V.int := by rw [cut_from, List.map_drop]
theorem take_snoc {ts : List Int} {i : Nat} (h : i < ts.length) : ts.take (i + 1) = ts.take i ++ [ts.getD i 0] := by
  rw [List.take_succ, List.getElem?_eq_getElem h, List.getD_eq_getElem?_getD, List.getElem?_eq_getElem h]
  rfl
theorem getD_at {ns : List Int} {i : Nat} (h : i < ns.length) : ns[i]? = some (ns.getD i 0) := by
  rw [List.getD_eq_getElem?_getD, List.getElem?_eq_getElem h] <;> rfl
theorem getD_in {ns : List Int} {i : Nat} (h : i < ns.length) : ns.getD i 0 ∈ ns := by
  rw [List.getD_eq_getElem?_getD, List.getElem?_eq_getElem h]
  exact List.getElem_mem h
theorem arg2 {a : V} {x y : Int} (e : x = y) : [a, V.int x] = [a, V.int y] := by rw [e]
theorem erase_map {α β : Type} (f : α → β) : ∀ (l : List α) (k : Nat), (l.map f).eraseIdx k = (l.eraseIdx k).map f
  | [], _ => by simp
  | x :: l, 0 => by simp
  | x :: l, k + 1 => by
    rw [List.map_cons, List.eraseIdx_cons_succ, List.eraseIdx_cons_succ, List.map_cons, erase_map f l k]
theorem erase_perm {α : Type} : ∀ (l : List α) (k : Nat) (h : k < l.length), (l[k] :: l.eraseIdx k).Perm l
  | x :: l, 0, h => List.Perm.refl _
  | x :: l, k + 1, h => by
    rw [List.eraseIdx_cons_succ, List.getElem_cons_succ]
    exact (List.Perm.swap _ _ _).trans ((erase_perm l k (by simpa using h)).cons x)
/-- rules whose reading names the written part, for elements of comprehensions -/
def rLen (K : PySem.W.Frag) : List V → Hp → VK → Prop := fun xs H Q => ∃ p ys, xs = [.ref p] ∧ (SqL K H p ys ∨ SqT K H p ys) ∧ Q (.int ys.length) H
theorem call_len {X : Cx} : CallR X (.builtin "len") (rLen X.K) := call_len_seq
end FL
namespace FL
open PySem PySem.Spec PyProof.Rows L2
/-! ## gaps -/
def gB (b : Bool) (x y : Int) : Bool := if b = true then decide (y ≠ x + 1) else decide (y ≠ x + 1 ∧ x ≠ y + 1)
def b1 (b : Bool) : Nat := if b = true then 1 else 0
/-- gaps of a pile that stands on a plate e -/
def gapc (g : Int → Int → Bool) : List Int → Int → Nat
  | [], _ => 0
  | x :: xs, e => b1 (g x (xs.headD e)) + gapc g xs e
/-- those between its own cakes -/
def inner (g : Int → Int → Bool) : List Int → Nat
  | [] => 0
  | [_] => 0
  | x :: y :: xs => b1 (g x y) + inner g (y :: xs)
def gapn (b : Bool) (ns : List Int) : Nat := gapc (gB b) ns (ns.length + 1)
theorem b1_le (b : Bool) : b1 b ≤ 1 := by cases b <;> decide
theorem b1_zero {b : Bool} (h : b1 b = 0) : b = false := by
  cases b with
  | true => exact absurd h (by decide)
  | false => rfl
theorem gBt_false {x y : Int} (h : gB true x y = false) : y = x + 1 := by
  unfold gB at h
  rw [if_pos rfl, decide_eq_false_iff_not] at h
  omega
theorem gBf_false {x y : Int} (h : gB false x y = false) : y = x + 1 ∨ x = y + 1 := by
  unfold gB at h
  rw [if_neg Bool.false_ne_true, decide_eq_false_iff_not] at h
  omega
theorem range_filter_succ (n : Nat) (p : Nat → Bool) : ((List.range (n + 1)).filter p).length = b1 (p 0) + ((List.range n).filter (fun k => p (k + 1))).length := by
  rw [List.range_succ_eq_map, List.filter_cons, List.filter_map]
  cases h : p 0 with
  | true =>
    rw [if_pos rfl, List.length_cons, List.length_map]
    show _ = 1 + _
    rw [Nat.add_comm]
    rfl
  | false =>
    rw [if_neg Bool.false_ne_true, List.length_map]
    show _ = 0 + _
    rw [Nat.zero_add]
    rfl
theorem gapc_count (g : Int → Int → Bool) (e : Int) : ∀ ns : List Int, ((List.range ns.length).filter (fun k => g (ns.getD k 0) ((ns.drop 1 ++ [e]).getD k 0))).length = gapc g ns e
  | [] => rfl
  | x :: xs => by
    rw [List.length_cons, range_filter_succ]
    have h1 : (((x :: xs).drop 1 ++ [e]).getD 0 0) = xs.headD e := by cases xs <;> rfl
    have h2 : ∀ k, k < xs.length → (((x :: xs).drop 1 ++ [e]).getD (k + 1) 0) = ((xs.drop 1 ++ [e]).getD k 0) := fun k hk => by
      cases xs with
      | nil => simp at hk
      | cons y ys => rfl
    rw [h1]
    show b1 (g x (xs.headD e)) + _ = b1 (g x (xs.headD e)) + gapc g xs e
    rw [← gapc_count g e xs]
    congr 2
    refine List.filter_congr fun k hk => ?_
    rw [h2 k (List.mem_range.mp hk)]
    rfl
theorem gapn_count (b : Bool) (ns : List Int) : ((List.range ns.length).filter (fun k => gB b (ns.getD k 0) ((ns.drop 1 ++ [((ns.length : Nat) : Int) + 1]).getD k 0))).length = gapn b ns := gapc_count _ _ ns
theorem gapc_append (g : Int → Int → Bool) (e : Int) : ∀ l m : List Int, gapc g (l ++ m) e = gapc g l (m.headD e) + gapc g m e
  | [], m => by simp [gapc]
  | x :: l, m => by
    show b1 (g x ((l ++ m).headD e)) + gapc g (l ++ m) e = b1 (g x (l.headD (m.headD e))) + gapc g l (m.headD e) + gapc g m e
    rw [gapc_append g e l m]
    have : (l ++ m).headD e = l.headD (m.headD e) := by cases l <;> rfl
    rw [this]
    omega
theorem gapc_inner (g : Int → Int → Bool) (e : Int) : ∀ l : List Int, inner g l ≤ gapc g l e ∧ gapc g l e ≤ inner g l + 1
  | [] => ⟨Nat.le_refl _, Nat.zero_le _⟩
  | [x] => by
    show 0 ≤ b1 (g x e) + 0 ∧ b1 (g x e) + 0 ≤ 0 + 1
    have := b1_le (g x e)
    omega
  | x :: y :: xs => by
    have ih := gapc_inner g e (y :: xs)
    show b1 (g x y) + inner g (y :: xs) ≤ b1 (g x y) + gapc g (y :: xs) e ∧ b1 (g x y) + gapc g (y :: xs) e ≤ b1 (g x y) + inner g (y :: xs) + 1
    omega
theorem inner_snoc (g : Int → Int → Bool) (z : Int) : ∀ l : List Int, ∀ y : Int, inner g ((l ++ [y]) ++ [z]) = inner g (l ++ [y]) + b1 (g y z)
  | [], y => by
    show b1 (g y z) + 0 = 0 + b1 (g y z)
    omega
  | [x], y => by
    show b1 (g x y) + (b1 (g y z) + 0) = b1 (g x y) + 0 + b1 (g y z)
    omega
  | x :: w :: l, y => by
    have ih := inner_snoc g z (w :: l) y
    show b1 (g x w) + inner g (((w :: l) ++ [y]) ++ [z]) = b1 (g x w) + inner g ((w :: l) ++ [y]) + b1 (g y z)
    rw [ih]
    omega
theorem inner_rev (g : Int → Int → Bool) (f : Int → Int) (hg : ∀ x y, g (f y) (f x) = g x y) : ∀ l : List Int, inner g (l.reverse.map f) = inner g l
  | [] => rfl
  | [x] => rfl
  | x :: y :: xs => by
    have ih := inner_rev g f hg (y :: xs)
    have e : (x :: y :: xs).reverse.map f = ((xs.reverse.map f) ++ [f y]) ++ [f x] := by simp
    have e2 : (y :: xs).reverse.map f = (xs.reverse.map f) ++ [f y] := by simp
    rw [e, inner_snoc, hg, ← e2, ih]
    show _ = b1 (g x y) + inner g (y :: xs)
    omega
theorem gB_neg (x y : Int) : gB true (-y) (-x) = gB true x y := by
  unfold gB
  rw [if_pos rfl, if_pos rfl]
  congr 1
  exact propext ⟨fun h e => h (by omega), fun h e => h (by omega)⟩
theorem gB_sym (x y : Int) : gB false y x = gB false x y := by
  unfold gB
  rw [if_neg Bool.false_ne_true, if_neg Bool.false_ne_true]
  congr 1
  exact propext ⟨fun h => ⟨h.2, h.1⟩, fun h => ⟨h.2, h.1⟩⟩
theorem tflip_eq (b : Bool) (ns : List Int) (k : Nat) : tflip b ns k = (ns.take k).reverse.map (fun x => if b = true then -x else x) ++ ns.drop k := by
  unfold tflip
  cases b with
  | true => rw [if_pos rfl, bflip] <;> rfl
  | false =>
    rw [if_neg Bool.false_ne_true, pflip]
    show _ = List.map (fun x => x) _ ++ _
    rw [List.map_id']
/-- a turn takes away or makes one gap at most -/
theorem gapn_flip (b : Bool) (ns : List Int) (k : Nat) : gapn b (tflip b ns k) ≤ gapn b ns + 1 ∧ gapn b ns ≤ gapn b (tflip b ns k) + 1 := by
  unfold gapn
  rw [tflip_length, tflip_eq, gapc_append]
  have e : gapc (gB b) ns ((ns.length : Nat) + 1) = gapc (gB b) (ns.take k) ((ns.drop k).headD ((ns.length : Nat) + 1)) + gapc (gB b) (ns.drop k) ((ns.length : Nat) + 1) := by
    rw [← gapc_append, List.take_append_drop]
  have hi : inner (gB b) ((ns.take k).reverse.map (fun x => if b = true then -x else x)) = inner (gB b) (ns.take k) := by
    refine inner_rev _ _ (fun x y => ?_) _
    cases b with
    | true => exact gB_neg x y
    | false => exact gB_sym x y
  have h1 := gapc_inner (gB b) ((ns.drop k).headD ((ns.length : Nat) + 1)) (ns.take k)
  have h2 := gapc_inner (gB b) ((ns.drop k).headD ((ns.length : Nat) + 1)) ((ns.take k).reverse.map (fun x => if b = true then -x else x))
  rw [hi] at h2
  rw [e]
  omega
/-- no gaps: in order -/
theorem burnt_nogap : ∀ (ns : List Int) (e : Int), gapc (gB true) ns e = 0 → ∀ k, k < ns.length → ns.getD k 0 = e - (ns.length : Int) + (k : Int)
  | [], _, _, _, h => absurd h (Nat.not_lt_zero _)
  | x :: xs, e, h, k, hk => by
    have h' : b1 (gB true x (xs.headD e)) + gapc (gB true) xs e = 0 := h
    have h1 : b1 (gB true x (xs.headD e)) = 0 := by omega
    have h2 : gapc (gB true) xs e = 0 := by omega
    have ih := burnt_nogap xs e h2
    have hx : xs.headD e = x + 1 := gBt_false (b1_zero h1)
    cases k with
    | zero =>
      show x = _
      cases xs with
      | nil =>
        have : e = x + 1 := hx
        simp
        omega
      | cons y ys =>
        have h3 := ih 0 (by simp)
        have h4 : y = x + 1 := hx
        have h5 : y = e - (((y :: ys).length : Nat) : Int) + ((0 : Nat) : Int) := h3
        simp only [List.length_cons] at h5 ⊢
        omega
    | succ j =>
      have h3 := ih j (by simpa using hk)
      show xs.getD j 0 = _
      rw [h3]
      simp only [List.length_cons]
      omega
theorem upto_getD {n k : Nat} (h : k < n) : (upto n).getD k 0 = 1 + (k : Int) := by
  rw [List.getD_eq_getElem?_getD, upto_get h]
  rfl
theorem ext_getD {l m : List Int} (h : l.length = m.length) (e : ∀ k, k < l.length → l.getD k 0 = m.getD k 0) : l = m := by
  apply List.ext_getElem h
  intro k h1 h2
  have := e k h1
  rw [List.getD_eq_getElem?_getD, List.getD_eq_getElem?_getD, List.getElem?_eq_getElem h1, List.getElem?_eq_getElem h2] at this
  exact this
theorem gapc_upto (b : Bool) (n : Nat) : gapn b (upto n) = 0 := by
  unfold gapn
  rw [← gapc_count, upto_length]
  rw [List.length_eq_zero_iff, List.filter_eq_nil_iff]
  intro k hk
  have hk := List.mem_range.mp hk
  have e1 := upto_getD hk
  have e2 : ((upto n).drop 1 ++ [((n : Nat) : Int) + 1]).getD k 0 = 2 + (k : Int) := by
    rw [List.getD_eq_getElem?_getD]
    by_cases h : k + 1 < n
    · rw [List.getElem?_append_left (by rw [List.length_drop, upto_length]; omega), List.getElem?_drop, Nat.add_comm, upto_get h]
      show 1 + ((k + 1 : Nat) : Int) = _
      omega
    · rw [List.getElem?_append_right (by rw [List.length_drop, upto_length]; omega), List.length_drop, upto_length]
      have : k - (n - 1) = 0 := by omega
      rw [this]
      show ((n : Nat) : Int) + 1 = _
      omega
  rw [e1, e2]
  unfold gB
  split <;> simp <;> omega
theorem burnt_order {ns : List Int} (h : gapn true ns = 0) : ns = upto ns.length := by
  refine ext_getD (upto_length _).symm fun k hk => ?_
  rw [upto_getD hk, burnt_nogap ns _ h k hk]
  omega
/-- a plain pile without gaps: the cakes behind place k are those in order -/
theorem plain_nogap : ∀ (ns : List Int) (e : Int), ns.Nodup → (∀ x ∈ ns, x < e) → gapc (gB false) ns e = 0 → ∀ k, k < ns.length → ns.getD k 0 = e - (ns.length : Int) + (k : Int)
  | [], _, _, _, _, _, h => absurd h (Nat.not_lt_zero _)
  | x :: xs, e, nd, lt, h, k, hk => by
    have h' : b1 (gB false x (xs.headD e)) + gapc (gB false) xs e = 0 := h
    have h1 : b1 (gB false x (xs.headD e)) = 0 := by omega
    have h2 : gapc (gB false) xs e = 0 := by omega
    have nd2 := List.nodup_cons.mp nd
    have ih := plain_nogap xs e nd2.2 (fun z hz => lt z (List.mem_cons_of_mem _ hz)) h2
    have hx : xs.headD e = x + 1 ∨ x = xs.headD e + 1 := gBf_false (b1_zero h1)
    have hlt := lt x List.mem_cons_self
    have x0 : x = e - (((x :: xs).length : Nat) : Int) := by
      cases xs with
      | nil =>
        have hx' : e = x + 1 ∨ x = e + 1 := hx
        simp only [List.length_cons, List.length_nil]
        omega
      | cons y ys =>
        have hx' : y = x + 1 ∨ x = y + 1 := hx
        have h5 : y = e - (((y :: ys).length : Nat) : Int) + ((0 : Nat) : Int) := ih 0 (by simp)
        simp only [List.length_cons] at h5 ⊢
        rcases hx' with c | c
        · omega
        · exfalso
          cases ys with
          | nil =>
            simp only [List.length_nil] at h5
            omega
          | cons w ws =>
            have h6 : w = e - (((y :: w :: ws).length : Nat) : Int) + ((1 : Nat) : Int) := ih 1 (by simp)
            simp only [List.length_cons] at h5 h6
            exact nd2.1 (by rw [show x = w by omega]; simp)
    cases k with
    | zero =>
      show x = _
      omega
    | succ j =>
      have h3 := ih j (by simpa using hk)
      show xs.getD j 0 = _
      rw [h3]
      simp only [List.length_cons]
      omega
theorem plain_order {ns : List Int} (hp : IsPile ns) (h : gapn false ns = 0) : ns = upto ns.length := by
  refine ext_getD (upto_length _).symm fun k hk => ?_
  rw [upto_getD hk, plain_nogap ns _ hp.nodup (fun x hx => by have := (hp.mem.mp hx).2; omega) h k hk]
  omega
theorem v_int_eq (x y : Int) : decide (V.int x = V.int y) = decide (x = y) := by
  by_cases h : x = y
  · rw [h, decide_eq_true rfl, decide_eq_true rfl]
  · rw [decide_eq_false h, decide_eq_false (fun e => h (V.int.inj e))]
theorem gap_test_plain (x y : Int) : (!decide (V.int (if x - y < 0 then -(x - y) else x - y) = V.int 1)) = gB false x y := by
  rw [v_int_eq]
  unfold gB
  rw [if_neg Bool.false_ne_true, ← decide_not]
  congr 1
  refine propext ⟨fun h => ?_, fun h => ?_⟩
  · split at h <;> omega
  · split <;> omega
theorem gap_test_burnt (x y : Int) : (!decide (V.int y = V.int (x + 1))) = gB true x y := by
  rw [v_int_eq]
  unfold gB
  rw [if_pos rfl, ← decide_not]
theorem tne_t {x y : Int} (h : (!decide (V.int x = V.int y)) = true) : x ≠ y := by
  rw [v_int_eq, ← decide_not] at h
  exact of_decide_eq_true h
theorem tne_f {x y : Int} (h : (!decide (V.int x = V.int y)) = false) : x = y := by
  rw [v_int_eq, ← decide_not] at h
  have := of_decide_eq_false h
  omega
theorem teq_t {x y : Int} (h : decide (V.int x = V.int y) = true) : x = y := by
  rw [v_int_eq] at h
  exact of_decide_eq_true h
theorem teq_f {x y : Int} (h : decide (V.int x = V.int y) = false) : x ≠ y := by
  rw [v_int_eq] at h
  exact of_decide_eq_false h
theorem below_eq (ns : List Int) (e : Int) (k : Nat) (h : k < ns.length) : (ns.drop 1 ++ [e]).getD k 0 = (ns ++ [e]).getD (k + 1) 0 := by
  cases ns with
  | nil => exact absurd h (Nat.not_lt_zero _)
  | cons x xs => rfl
def gapTo (b : Bool) (ns : List Int) (i : Nat) : Nat := ((List.range i).filter (fun k => gB b (ns.getD k 0) ((ns ++ [((ns.length : Nat) : Int) + 1]).getD (k + 1) 0))).length
theorem gapTo_all (b : Bool) (ns : List Int) : gapTo b ns ns.length = gapn b ns := by
  rw [← gapn_count]
  unfold gapTo
  congr 1
  refine List.filter_congr fun k hk => ?_
  rw [below_eq ns _ k (List.mem_range.mp hk)]
theorem gapTo_succ (b : Bool) (ns : List Int) (i : Nat) : gapTo b ns (i + 1) = gapTo b ns i + b1 (gB b (ns.getD i 0) ((ns ++ [((ns.length : Nat) : Int) + 1]).getD (i + 1) 0)) := by
  unfold gapTo
  rw [List.range_succ, List.filter_append, List.length_append]
  congr 1
  rw [List.filter_cons]
  cases gB b (ns.getD i 0) ((ns ++ [((ns.length : Nat) : Int) + 1]).getD (i + 1) 0) with
  | true => rfl
  | false => rfl
theorem gB_t {b : Bool} {x y : Int} (h1 : y ≠ x + 1) (h2 : b = false → x ≠ y + 1) : gB b x y = true := by
  unfold gB
  cases b with
  | true =>
    rw [if_pos rfl]
    exact decide_eq_true h1
  | false =>
    rw [if_neg Bool.false_ne_true]
    exact decide_eq_true ⟨h1, h2 rfl⟩
theorem gB_f1 {b : Bool} {x y : Int} (h1 : y = x + 1) : gB b x y = false := by
  unfold gB
  cases b with
  | true =>
    rw [if_pos rfl]
    exact decide_eq_false fun h => h h1
  | false =>
    rw [if_neg Bool.false_ne_true]
    exact decide_eq_false fun h => h.1 h1
theorem gB_f2 {x y : Int} (h1 : x = y + 1) : gB false x y = false := by
  unfold gB
  rw [if_neg Bool.false_ne_true]
  exact decide_eq_false fun h => h.2 h1
end FL
namespace FL
open PySem PySem.Spec PyProof.Rows L2
/-! ## rows of turns, and the rule's plans -/
def gsg (b : Bool) (x : Int) : Int := if b = true then -x else x
theorem gsg_gsg (b : Bool) (x : Int) : gsg b (gsg b x) = x := by
  unfold gsg
  cases b with
  | true => rw [if_pos rfl, if_pos rfl, Int.neg_neg]
  | false => rw [if_neg Bool.false_ne_true, if_neg Bool.false_ne_true]
theorem tflip_g (b : Bool) (ns : List Int) (k : Nat) : tflip b ns k = (ns.take k).reverse.map (gsg b) ++ ns.drop k := tflip_eq b ns k
theorem tflip_false (ns : List Int) (k : Nat) : tflip false ns k = pflip ns k := rfl
theorem tflip_true (ns : List Int) (k : Nat) : tflip true ns k = bflip ns k := rfl
theorem tflip_lt (b : Bool) {ns : List Int} {k j : Nat} (hk : k ≤ ns.length) (hj : j < k) : (tflip b ns k).getD j 0 = gsg b (ns.getD (k - 1 - j) 0) := by
  rw [tflip_g, List.getD_eq_getElem?_getD, List.getElem?_append_left (by rw [List.length_map, List.length_reverse, List.length_take]; omega), List.getElem?_map, List.getElem?_reverse (by rw [List.length_take]; omega), List.length_take, Nat.min_eq_left hk,
    List.getElem?_take, if_pos (show k - 1 - j < k by omega), List.getElem?_eq_getElem (show k - 1 - j < ns.length by omega), List.getD_eq_getElem?_getD, List.getElem?_eq_getElem (show k - 1 - j < ns.length by omega)]
  rfl
theorem tflip_ge (b : Bool) {ns : List Int} {k j : Nat} (hk : k ≤ ns.length) (hj : k ≤ j) : (tflip b ns k).getD j 0 = ns.getD j 0 := by
  have e : (((ns.take k).reverse.map (gsg b))).length = k := by rw [List.length_map, List.length_reverse, List.length_take]; omega
  rw [tflip_g, List.getD_eq_getElem?_getD, List.getElem?_append_right (by rw [e]; exact hj), e, List.getElem?_drop, List.getD_eq_getElem?_getD]
  congr 2
  omega
theorem tflip_tflip (b : Bool) {ns : List Int} {k : Nat} (hk : k ≤ ns.length) : tflip b (tflip b ns k) k = ns := by
  refine ext_getD (by rw [tflip_length, tflip_length]) fun j hj => ?_
  rw [tflip_length, tflip_length] at hj
  by_cases h : j < k
  · rw [tflip_lt b (by rw [tflip_length]; exact hk) h, tflip_lt b hk (show k - 1 - j < k by omega), gsg_gsg]
    congr 1
    omega
  · rw [tflip_ge b (by rw [tflip_length]; exact hk) (by omega), tflip_ge b hk (by omega)]
def IsP (b : Bool) (p : List Int) : Prop := if b = true then IsBurnt p else IsPile p
theorem IsP.len {b : Bool} {p : List Int} (h : IsP b p) : 1 ≤ p.length ∧ p.length ≤ 12 := by
  cases b with
  | true => exact burnt_len h
  | false => exact ⟨h.1, h.2.1⟩
theorem IsP.flip {b : Bool} {p : List Int} (h : IsP b p) (k : Nat) : IsP b (tflip b p k) := by
  cases b with
  | true => exact bflip_burnt h
  | false => exact pflip_pile h
theorem IsP.order {b : Bool} {p : List Int} (h : IsP b p) (g : gapn b p = 0) : p = upto p.length := by
  cases b with
  | true => exact burnt_order g
  | false => exact plain_order h g
def tbehind (b : Bool) (ns ts : List Int) : List Int := ts.foldl (fun p t => tflip b p t.toNat) ns
theorem tbehind_nil (b : Bool) (ns : List Int) : tbehind b ns [] = ns := rfl
theorem tbehind_cons (b : Bool) (ns ts : List Int) (t : Int) : tbehind b ns (t :: ts) = tbehind b (tflip b ns t.toNat) ts := rfl
theorem tbehind_append (b : Bool) (ns ts us : List Int) : tbehind b ns (ts ++ us) = tbehind b (tbehind b ns ts) us := List.foldl_append
theorem tbehind_snoc (b : Bool) (ns ts : List Int) (t : Int) : tbehind b ns (ts ++ [t]) = tflip b (tbehind b ns ts) t.toNat := tbehind_append b ns ts [t]
theorem tbehind_length (b : Bool) : ∀ (ts ns : List Int), (tbehind b ns ts).length = ns.length
  | [], _ => rfl
  | t :: ts, ns => by rw [tbehind_cons, tbehind_length b ts, tflip_length]
theorem tbehind_isP {b : Bool} : ∀ (ts : List Int) {ns : List Int}, IsP b ns → IsP b (tbehind b ns ts)
  | [], _, h => h
  | t :: ts, ns, h => tbehind_isP ts (h.flip t.toNat)
theorem gapn_behind (b : Bool) : ∀ (ts ns : List Int), gapn b ns ≤ gapn b (tbehind b ns ts) + ts.length
  | [], _ => Nat.le_refl _
  | t :: ts, ns => by
    have h1 := gapn_behind b ts (tflip b ns t.toNat)
    have h2 := (gapn_flip b ns t.toNat).2
    rw [tbehind_cons, List.length_cons]
    omega
/-- cakes from place i on in order -/
def Placed (q : List Int) (c : Nat) : Prop := ∀ j, c ≤ j → j < q.length → q.getD j 0 = (j : Int) + 1
theorem placed_all {q : List Int} (h : Placed q 0) : q = upto q.length := by
  refine ext_getD (upto_length _).symm fun k hk => ?_
  rw [upto_getD hk, h k (Nat.zero_le _) hk]
  omega
theorem idx_get {q : List Int} {x : Int} (h : x ∈ q) : q.idxOf x < q.length ∧ q.getD (q.idxOf x) 0 = x := by
  have h1 := List.idxOf_lt_length_of_mem h
  refine ⟨h1, ?_⟩
  rw [List.getD_eq_getElem?_getD, List.getElem?_eq_getElem h1]
  exact List.getElem_idxOf h1
theorem getD_inj {q : List Int} (nd : q.Nodup) {i j : Nat} (hi : i < q.length) (hj : j < q.length) (e : q.getD i 0 = q.getD j 0) : i = j := by
  rw [List.getD_eq_getElem?_getD, List.getD_eq_getElem?_getD, List.getElem?_eq_getElem hi, List.getElem?_eq_getElem hj] at e
  exact (List.getElem_inj nd).mp e
theorem idx_at {q : List Int} (nd : q.Nodup) {i : Nat} (hi : i < q.length) : q.idxOf (q.getD i 0) = i := by
  have h := idx_get (getD_in hi)
  exact getD_inj nd h.1 hi h.2
theorem idx_low {q : List Int} (h : IsPile q) {c : Nat} (h1 : 1 ≤ c) (hc : c ≤ q.length) (pl : Placed q c) : q.idxOf (c : Int) < c := by
  have hm : (c : Int) ∈ q := h.mem.mpr ⟨by omega, by omega⟩
  obtain ⟨a, e⟩ := idx_get hm
  refine Nat.lt_of_not_le fun hle => ?_
  have := pl _ hle a
  omega
/-- what x.index(y) asks of a list of ints -/
theorem index_facts {q : List Int} {x : Int} (h : x ∈ q) : (q.map V.int).all flatV = true ∧ (q.map V.int)[q.idxOf x]? = some (V.int x) ∧ eqV (V.int x) (V.int x) = true ∧
    ∀ (m : Nat) (z : V), m < q.idxOf x → (q.map V.int)[m]? = some z → eqV z (V.int x) = false := by
  obtain ⟨h1, h2⟩ := idx_get h
  have h3 : q[q.idxOf x]? = some x := by rw [getD_at h1, h2]
  refine ⟨?_, setInt h3, beq_self_eq_true x, fun m z hm hz => ?_⟩
  · rw [List.all_eq_true]
    intro v hv
    obtain ⟨y, _, rfl⟩ := List.mem_map.mp hv
    rfl
  · obtain ⟨y, hy, rfl, hl⟩ := getInt hz
    show (y == x) = false
    have hn : y ≠ x := fun e => by
      have nf := List.not_of_lt_findIdx (p := (· == x)) (xs := q) (i := m) hm
      have e2 : q[m] = y := by
        rw [List.getElem?_eq_getElem hl] at hy
        exact Option.some.inj hy
      rw [e2, e] at nf
      simp at nf
    simp [hn]
def pstep (c : Nat) (s : List Int × List Int) : List Int × List Int :=
  if s.1.idxOf (c : Int) + 1 = c then s else if s.1.idxOf (c : Int) + 1 = 1 then (pflip s.1 c, s.2 ++ [(c : Int)]) else (pflip (pflip s.1 (s.1.idxOf (c : Int) + 1)) c, s.2 ++ [((s.1.idxOf (c : Int) + 1 : Nat) : Int)] ++ [(c : Int)])
def pst (p : List Int) : Nat → List Int × List Int
  | 0 => (p, [])
  | i + 1 => pstep (p.length - i) (pst p i)
structure PInv (b : Bool) (p : List Int) (s : List Int × List Int) (c : Nat) : Prop where
  pile : IsP b s.1
  len : s.1.length = p.length
  pl : Placed s.1 c
  beh : s.1 = tbehind b p s.2
  ok : ∀ t ∈ s.2, 1 ≤ t ∧ t ≤ p.length
theorem PInv.put {b : Bool} {p : List Int} {s : List Int × List Int} {c k : Nat} (h : PInv b p s c) (h1 : 1 ≤ k) (hk : k ≤ c) (hc : c ≤ p.length) : PInv b p (tflip b s.1 k, s.2 ++ [(k : Int)]) c where
  pile := h.pile.flip k
  len := by rw [tflip_length]; exact h.len
  pl := fun j hj hl => by
    rw [tflip_length] at hl
    show (tflip b s.1 k).getD j 0 = _
    rw [tflip_ge b (by rw [h.len]; omega) (by omega)]
    exact h.pl j hj hl
  beh := by
    show tflip b s.1 k = tbehind b p (s.2 ++ [(k : Int)])
    rw [tbehind_snoc, ← h.beh, Int.toNat_natCast]
  ok := fun t ht => by
    rcases List.mem_append.mp ht with m | m
    · exact h.ok t m
    · rw [List.mem_singleton.mp m]
      omega
theorem PInv.down {b : Bool} {p : List Int} {s : List Int × List Int} {c : Nat} (h : PInv b p s (c + 1)) (e : s.1.getD c 0 = (c : Int) + 1) : PInv b p s c where
  pile := h.pile
  len := h.len
  pl := fun j hj hl => by
    by_cases hc : j = c
    · rw [hc]
      exact e
    · exact h.pl j (by omega) hl
  beh := h.beh
  ok := h.ok
theorem pstep_inv {p : List Int} {s : List Int × List Int} {c : Nat} (hc : c + 1 ≤ p.length) (h : PInv false p s (c + 1)) : PInv false p (pstep (c + 1) s) c ∧ (pstep (c + 1) s).2.length ≤ s.2.length + (if c = 0 then 0 else if c = 1 then 1 else 2) := by
  have hp : IsPile s.1 := h.pile
  have hm : ((c + 1 : Nat) : Int) ∈ s.1 := hp.mem.mpr ⟨by omega, by rw [h.len]; omega⟩
  have hi := idx_low hp (c := c + 1) (by omega) (by rw [h.len]; exact hc) h.pl
  obtain ⟨hl, hg⟩ := idx_get hm
  have hlen := h.len
  unfold pstep
  by_cases e1 : s.1.idxOf ((c + 1 : Nat) : Int) + 1 = c + 1
  · rw [if_pos e1]
    refine ⟨h.down ?_, Nat.le_add_right _ _⟩
    have e2 : s.1.idxOf ((c + 1 : Nat) : Int) = c := by omega
    rw [e2] at hg
    rw [hg]
    omega
  · rw [if_neg e1]
    have hc0 : ¬ c = 0 := by omega
    by_cases e2 : s.1.idxOf ((c + 1 : Nat) : Int) + 1 = 1
    · rw [if_pos e2]
      have e3 : s.1.idxOf ((c + 1 : Nat) : Int) = 0 := by omega
      rw [e3] at hg
      refine ⟨(h.put (k := c + 1) (by omega) (Nat.le_refl _) hc).down ?_, ?_⟩
      · show (tflip false s.1 (c + 1)).getD c 0 = _
        rw [tflip_lt false (by omega) (Nat.lt_succ_self _), show c + 1 - 1 - c = 0 by omega, hg]
        show ((c + 1 : Nat) : Int) = _
        omega
      · rw [List.length_append, if_neg hc0]
        have : [((c + 1 : Nat) : Int)].length = 1 := rfl
        rw [this]
        split <;> omega
    · rw [if_neg e2]
      have hk : s.1.idxOf ((c + 1 : Nat) : Int) + 1 ≤ s.1.length := by omega
      refine ⟨((h.put (k := s.1.idxOf ((c + 1 : Nat) : Int) + 1) (by omega) (by omega) hc).put (k := c + 1) (by omega) (Nat.le_refl _) hc).down ?_, ?_⟩
      · show (tflip false (tflip false s.1 (s.1.idxOf ((c + 1 : Nat) : Int) + 1)) (c + 1)).getD c 0 = _
        rw [tflip_lt false (by rw [tflip_length]; omega) (Nat.lt_succ_self _), show c + 1 - 1 - c = 0 by omega, tflip_lt false hk (by omega), show s.1.idxOf ((c + 1 : Nat) : Int) + 1 - 1 - 0 = s.1.idxOf ((c + 1 : Nat) : Int) by omega, hg]
        show ((c + 1 : Nat) : Int) = _
        omega
      · rw [List.length_append, List.length_append, if_neg hc0, if_neg (show ¬ c = 1 by omega)]
        show s.2.length + 1 + 1 ≤ _
        omega
theorem pst_inv {p : List Int} (hp : IsPile p) : ∀ i, i ≤ p.length → PInv false p (pst p i) (p.length - i) ∧ (pst p i).2.length ≤ 2 * i ∧ (p.length - i < 2 → (pst p i).2.length ≤ 2 * p.length - 3)
  | 0, _ => ⟨⟨hp, rfl, fun j h1 h2 => absurd h2 (by show ¬ j < p.length; omega), rfl, fun t ht => absurd ht (by show ¬ t ∈ []; simp)⟩, Nat.le_refl _, fun _ => Nat.zero_le _⟩
  | i + 1, hi => by
    obtain ⟨ih, l1, l2⟩ := pst_inv hp i (by omega)
    have e : p.length - i = (p.length - (i + 1)) + 1 := by omega
    have ih' : PInv false p (pst p i) ((p.length - (i + 1)) + 1) := by rw [← e]; exact ih
    obtain ⟨n1, n2⟩ := pstep_inv (c := p.length - (i + 1)) (by omega) ih'
    have e3 : pst p (i + 1) = pstep ((p.length - (i + 1)) + 1) (pst p i) := by
      show pstep (p.length - i) (pst p i) = _
      rw [e]
    rw [e3]
    refine ⟨n1, ?_, fun hs => ?_⟩
    · split at n2 <;> (try split at n2) <;> omega
    · split at n2
      · by_cases h : p.length - i < 2
        · have := l2 h
          omega
        · omega
      · split at n2
        · omega
        · omega
def planOf (p : List Int) : List Int := (pst p p.length).2
structure Sorts (b : Bool) (p ts : List Int) : Prop where
  ok : ∀ t ∈ ts, 1 ≤ t ∧ t ≤ p.length
  e : tbehind b p ts = upto p.length
theorem plan_sorts {p : List Int} (hp : IsPile p) : Sorts false p (planOf p) ∧ (planOf p).length ≤ 2 * p.length - 3 := by
  obtain ⟨a, _, c⟩ := pst_inv hp p.length (Nat.le_refl _)
  rw [Nat.sub_self] at a c
  refine ⟨⟨a.ok, ?_⟩, c (by decide)⟩
  unfold planOf
  rw [← a.beh, placed_all a.pl, a.len]
theorem Sorts.gaps {b : Bool} {p ts : List Int} (h : Sorts b p ts) : gapn b p ≤ ts.length := by
  have := gapn_behind b ts p
  rw [h.e, gapc_upto] at this
  omega
/-! ### burnt -/
def bplace (q : List Int) (c : Nat) : Nat := (q.map iabs).idxOf (c : Int) + 1
def bst1 (c : Nat) (s : List Int × List Int) : List Int × List Int := if 1 < bplace s.1 c then (bflip s.1 (bplace s.1 c), s.2 ++ [((bplace s.1 c : Nat) : Int)]) else s
def bst2 (s : List Int × List Int) : List Int × List Int := if 0 < s.1.getD 0 0 then (bflip s.1 1, s.2 ++ [1]) else s
def bstep (c : Nat) (s : List Int × List Int) : List Int × List Int :=
  if s.1.getD (c - 1) 0 = (c : Int) then s else (bflip (bst2 (bst1 c s)).1 c, (bst2 (bst1 c s)).2 ++ [(c : Int)])
def bst (p : List Int) : Nat → List Int × List Int
  | 0 => (p, [])
  | i + 1 => bstep (p.length - i) (bst p i)
theorem abs_getD {q : List Int} {j : Nat} (h : j < q.length) : (q.map iabs).getD j 0 = iabs (q.getD j 0) := by
  rw [List.getD_eq_getElem?_getD, List.getElem?_map, List.getD_eq_getElem?_getD, List.getElem?_eq_getElem h]
  rfl
theorem placed_abs {q : List Int} {c : Nat} (h : Placed q c) : Placed (q.map iabs) c := fun j h1 h2 => by
  rw [List.length_map] at h2
  rw [abs_getD h2, h j h1 h2, iabs_pos (by omega)]
theorem bst1_inv {p : List Int} {s : List Int × List Int} {c : Nat} (hc : c + 1 ≤ p.length) (h : PInv true p s (c + 1)) :
    bplace s.1 (c + 1) ≤ c + 1 ∧ PInv true p (bst1 (c + 1) s) (c + 1) ∧ iabs ((bst1 (c + 1) s).1.getD 0 0) = (c : Int) + 1 ∧ (bst1 (c + 1) s).2.length ≤ s.2.length + (if c = 0 then 0 else 1) := by
  have hp : IsPile (s.1.map iabs) := h.pile
  have hlen := h.len
  have hi := idx_low hp (c := c + 1) (by omega) (by rw [List.length_map, h.len]; exact hc) (placed_abs h.pl)
  have hm : ((c + 1 : Nat) : Int) ∈ s.1.map iabs := hp.mem.mpr ⟨by omega, by rw [List.length_map, h.len]; omega⟩
  obtain ⟨hl, hg⟩ := idx_get hm
  rw [List.length_map] at hl
  rw [abs_getD hl] at hg
  unfold bst1
  have eb : bplace s.1 (c + 1) = (s.1.map iabs).idxOf ((c + 1 : Nat) : Int) + 1 := rfl
  by_cases e1 : 1 < bplace s.1 (c + 1)
  · rw [if_pos e1]
    refine ⟨by omega, h.put (by omega) (by omega) hc, ?_, ?_⟩
    · show iabs ((tflip true s.1 (bplace s.1 (c + 1))).getD 0 0) = _
      rw [tflip_lt true (by omega) (by omega), eb, show (s.1.map iabs).idxOf ((c + 1 : Nat) : Int) + 1 - 1 - 0 = (s.1.map iabs).idxOf ((c + 1 : Nat) : Int) by omega]
      show iabs (-(s.1.getD _ 0)) = _
      rw [iabs_neg, hg]
      omega
    · rw [List.length_append, if_neg (show ¬ c = 0 by omega)]
      exact Nat.le_refl _
  · rw [if_neg e1]
    refine ⟨by omega, h, ?_, Nat.le_add_right _ _⟩
    have e2 : (s.1.map iabs).idxOf ((c + 1 : Nat) : Int) = 0 := by omega
    rw [e2] at hg
    rw [hg]
    omega
theorem bst2_inv {p : List Int} {s : List Int × List Int} {c : Nat} (hc : c + 1 ≤ p.length) (h : PInv true p s (c + 1)) (e : iabs (s.1.getD 0 0) = (c : Int) + 1) :
    PInv true p (bst2 s) (c + 1) ∧ (bst2 s).1.getD 0 0 = -((c : Int) + 1) ∧ (bst2 s).2.length ≤ s.2.length + 1 := by
  have hlen := h.len
  unfold bst2
  by_cases e1 : 0 < s.1.getD 0 0
  · rw [if_pos e1]
    refine ⟨h.put (k := 1) (by omega) (by omega) hc, ?_, ?_⟩
    · show (tflip true s.1 1).getD 0 0 = _
      rw [tflip_lt true (by omega) (by omega)]
      show -(s.1.getD 0 0) = _
      rw [iabs_pos (by omega)] at e
      rw [e]
    · rw [List.length_append]
      exact Nat.le_refl _
  · rw [if_neg e1]
    refine ⟨h, ?_, Nat.le_succ _⟩
    have := iabs_cases (s.1.getD 0 0)
    omega
theorem bstep_inv {p : List Int} {s : List Int × List Int} {c : Nat} (hc : c + 1 ≤ p.length) (h : PInv true p s (c + 1)) : PInv true p (bstep (c + 1) s) c ∧ (bstep (c + 1) s).2.length ≤ s.2.length + (if c = 0 then (if s.1.getD 0 0 = 1 then 0 else if 0 < s.1.getD 0 0 then 2 else 1) else 3) := by
  obtain ⟨hb, i1, a1, l1⟩ := bst1_inv hc h
  obtain ⟨i2, a2, l2⟩ := bst2_inv hc i1 a1
  have hlen := i2.len
  unfold bstep
  by_cases e1 : s.1.getD (c + 1 - 1) 0 = ((c + 1 : Nat) : Int)
  · rw [if_pos e1]
    refine ⟨h.down (by rw [show c = c + 1 - 1 by omega, e1]; omega), Nat.le_add_right _ _⟩
  · rw [if_neg e1]
    refine ⟨(i2.put (k := c + 1) (by omega) (Nat.le_refl _) hc).down ?_, ?_⟩
    · show (tflip true (bst2 (bst1 (c + 1) s)).1 (c + 1)).getD c 0 = _
      rw [tflip_lt true (by omega) (Nat.lt_succ_self _), show c + 1 - 1 - c = 0 by omega, a2]
      show - -((c : Int) + 1) = _
      omega
    · rw [List.length_append]
      show (bst2 (bst1 (c + 1) s)).2.length + 1 ≤ _
      by_cases hc0 : c = 0
      · subst hc0
        rw [if_pos rfl]
        rw [if_pos rfl] at l1
        have hs : bst1 (0 + 1) s = s := by
          unfold bst1
          rw [if_neg (by omega)]
        rw [hs] at l2 l1 ⊢
        rw [if_neg (show ¬ s.1.getD 0 0 = 1 from fun h => e1 (by rw [show 0 + 1 - 1 = 0 from rfl, h]; rfl))]
        by_cases h0 : 0 < s.1.getD 0 0
        · rw [if_pos h0]
          omega
        · rw [if_neg h0]
          have : bst2 s = s := by
            unfold bst2
            rw [if_neg h0]
          rw [this]
          exact Nat.le_refl _
      · rw [if_neg hc0] at l1 ⊢
        omega
theorem bst_inv {p : List Int} (hp : IsBurnt p) : ∀ i, i ≤ p.length → PInv true p (bst p i) (p.length - i) ∧ (i < p.length → (bst p i).2.length ≤ 3 * i) ∧ (i = p.length → (bst p i).2.length ≤ 3 * i - 2)
  | 0, _ => ⟨⟨hp, rfl, fun j h1 h2 => absurd h2 (by show ¬ j < p.length; omega), rfl, fun t ht => absurd ht (by show ¬ t ∈ []; simp)⟩, fun _ => Nat.le_refl _, fun _ => Nat.zero_le _⟩
  | i + 1, hi => by
    obtain ⟨ih, l1, l2⟩ := bst_inv hp i (by omega)
    have e : p.length - i = (p.length - (i + 1)) + 1 := by omega
    have ih' : PInv true p (bst p i) ((p.length - (i + 1)) + 1) := by rw [← e]; exact ih
    obtain ⟨n1, n2⟩ := bstep_inv (c := p.length - (i + 1)) (by omega) ih'
    have e3 : bst p (i + 1) = bstep ((p.length - (i + 1)) + 1) (bst p i) := by
      show bstep (p.length - i) (bst p i) = _
      rw [e]
    have l1 := l1 (by omega)
    rw [e3]
    refine ⟨n1, fun hs => ?_, fun hs => ?_⟩
    · rw [if_neg (by omega)] at n2
      omega
    · have hz : p.length - (i + 1) = 0 := by omega
      rw [hz] at ih'
      obtain ⟨_, _, a1, _⟩ := bst1_inv (c := 0) (by omega) ih'
      have hs1 : bst1 (0 + 1) (bst p i) = bst p i := by
        have := (bst1_inv (c := 0) (by omega) ih').1
        unfold bst1
        rw [if_neg (by omega)]
      rw [hs1] at a1
      have := iabs_cases ((bst p i).1.getD 0 0)
      rw [if_pos hz] at n2
      rw [hz]
      rw [hz] at n2
      split at n2
      · omega
      · rename_i h1
        rw [if_neg (by omega)] at n2
        omega
def bplanOf (p : List Int) : List Int := (bst p p.length).2
theorem bplan_sorts {p : List Int} (hp : IsBurnt p) : Sorts true p (bplanOf p) ∧ (bplanOf p).length ≤ 3 * p.length - 2 := by
  obtain ⟨a, _, c⟩ := bst_inv hp p.length (Nat.le_refl _)
  rw [Nat.sub_self] at a
  refine ⟨⟨a.ok, ?_⟩, c rfl⟩
  unfold bplanOf
  rw [← a.beh, placed_all a.pl, a.len]
end FL
namespace FL
open PySem PySem.Spec PyProof.Rows L2
/-! ## the fewest turns -/
theorem least_nat (P : Nat → Prop) : ∀ n, P n → ∃ m, P m ∧ ∀ k, k < m → ¬ P k := by
  intro n
  induction n using Nat.strongRecOn with
  | _ n ih =>
    intro h
    by_cases e : ∃ k, k < n ∧ P k
    · obtain ⟨k, hk, pk⟩ := e
      exact ih k hk pk
    · exact ⟨n, h, fun k hk pk => e ⟨k, hk, pk⟩⟩
def Dist (b : Bool) (p : List Int) (m : Nat) : Prop := (∃ ts, Sorts b p ts ∧ ts.length = m) ∧ ∀ ts, Sorts b p ts → m ≤ ts.length
theorem dist_ex {b : Bool} {p ts : List Int} (h : Sorts b p ts) : ∃ m, Dist b p m := by
  obtain ⟨m, ⟨us, h1, h2⟩, h3⟩ := least_nat (fun m => ∃ us, Sorts b p us ∧ us.length = m) _ ⟨ts, h, rfl⟩
  exact ⟨m, ⟨us, h1, h2⟩, fun vs hv => Nat.le_of_not_lt fun hl => h3 _ hl ⟨vs, hv, rfl⟩⟩
open Classical in
noncomputable def dist (b : Bool) (p : List Int) : Nat := if h : ∃ m, Dist b p m then choose h else 0
theorem dist_of {b : Bool} {p : List Int} (h : ∃ m, Dist b p m) : Dist b p (dist b p) := by
  unfold dist
  rw [dif_pos h]
  exact Classical.choose_spec h
theorem IsP.sorts {b : Bool} {p : List Int} (h : IsP b p) : ∃ ts, Sorts b p ts := by
  cases b with
  | true => exact ⟨_, (bplan_sorts h).1⟩
  | false => exact ⟨_, (plan_sorts h).1⟩
theorem dist_spec {b : Bool} {p : List Int} (h : IsP b p) : Dist b p (dist b p) := by
  obtain ⟨ts, hts⟩ := h.sorts
  exact dist_of (dist_ex hts)
theorem dist_le {b : Bool} {p ts : List Int} (h : Sorts b p ts) : dist b p ≤ ts.length := (dist_of (dist_ex h)).2 ts h
theorem sorts_cons {b : Bool} {p ts : List Int} {t : Nat} (h1 : 1 ≤ t) (h2 : t ≤ p.length) (h : Sorts b (tflip b p t) ts) : Sorts b p ((t : Int) :: ts) where
  ok := fun u hu => by
    rcases List.mem_cons.mp hu with e | m
    · rw [e]
      omega
    · have := h.ok u m
      rw [tflip_length] at this
      exact this
  e := by
    rw [tbehind_cons, Int.toNat_natCast, h.e, tflip_length]
theorem sorts_tail {b : Bool} {p ts : List Int} {t : Int} (h : Sorts b p (t :: ts)) : 1 ≤ t.toNat ∧ t.toNat ≤ p.length ∧ ((t.toNat : Nat) : Int) = t ∧ Sorts b (tflip b p t.toNat) ts := by
  have h1 := h.ok t List.mem_cons_self
  refine ⟨by omega, by omega, by omega, fun u hu => ?_, ?_⟩
  · rw [tflip_length]
    exact h.ok u (List.mem_cons_of_mem _ hu)
  · rw [tflip_length]
    exact h.e
theorem dist_down {b : Bool} {p : List Int} (h : IsP b p) {t : Nat} (h1 : 1 ≤ t) (h2 : t ≤ p.length) : dist b p ≤ dist b (tflip b p t) + 1 := by
  obtain ⟨⟨ts, s, l⟩, _⟩ := dist_spec (h.flip t)
  have := dist_le (sorts_cons h1 h2 s)
  rw [List.length_cons, l] at this
  exact this
theorem dist_up {b : Bool} {p : List Int} (h : IsP b p) {t : Nat} (h1 : 1 ≤ t) (h2 : t ≤ p.length) : dist b (tflip b p t) ≤ dist b p + 1 := by
  have := dist_down (h.flip t) h1 (by rw [tflip_length]; exact h2)
  rw [tflip_tflip b h2] at this
  exact this
theorem dist_step {b : Bool} {p : List Int} (h : IsP b p) {m : Nat} (e : dist b p = m + 1) : ∃ t, 1 ≤ t ∧ t ≤ p.length ∧ dist b (tflip b p t) = m := by
  obtain ⟨⟨ts, s, l⟩, _⟩ := dist_spec h
  rw [e] at l
  cases ts with
  | nil => exact absurd l (by simp)
  | cons t ts =>
    obtain ⟨h1, h2, h3, h4⟩ := sorts_tail s
    refine ⟨t.toNat, h1, h2, ?_⟩
    have := dist_le h4
    have := dist_down h h1 h2
    simp at l
    omega
theorem dist_zero {b : Bool} {p : List Int} (h : IsP b p) : dist b p = 0 ↔ p = upto p.length := by
  constructor
  · intro e
    obtain ⟨⟨ts, s, l⟩, _⟩ := dist_spec h
    rw [e] at l
    have := List.length_eq_zero_iff.mp l
    rw [this] at s
    exact s.e
  · intro e
    have : Sorts b p [] := ⟨fun t ht => absurd ht (by simp), e⟩
    have := dist_le this
    simp at this
    exact this
theorem gapn_dist {b : Bool} {p : List Int} (h : IsP b p) : gapn b p ≤ dist b p := by
  obtain ⟨⟨ts, s, l⟩, _⟩ := dist_spec h
  rw [← l]
  exact s.gaps
theorem gapn_zero {b : Bool} {p : List Int} (h : IsP b p) : gapn b p = 0 ↔ dist b p = 0 := by
  constructor
  · intro e
    exact (dist_zero h).mpr (h.order e)
  · intro e
    have := gapn_dist h
    omega
/-- the first of the fewest -/
noncomputable def fst (b : Bool) : Nat → List Int → List Int
  | 0, _ => []
  | m + 1, p => match (List.range p.length).find? (fun i => decide (dist b (tflip b p (i + 1)) = m)) with
    | some i => ((i + 1 : Nat) : Int) :: fst b m (tflip b p (i + 1))
    | none => []
noncomputable def few (b : Bool) (p : List Int) : List Int := fst b (dist b p) p
theorem find_first {f : Nat → Bool} : ∀ m i : Nat, i < m → f i = true → (∀ j, j < i → f j = false) → (List.range m).find? f = some i
  | 0, _, h, _, _ => absurd h (Nat.not_lt_zero _)
  | m + 1, i, h, e, n => by
    rw [List.range_succ, List.find?_append]
    by_cases c : i < m
    · rw [find_first m i c e n]
      rfl
    · have c2 : i = m := by omega
      subst c2
      have : (List.range i).find? f = none := List.find?_eq_none.mpr fun j hj => by
        rw [n j (List.mem_range.mp hj)]
        exact Bool.false_ne_true
      rw [this, List.find?_cons, e]
      rfl
theorem findSome_first {α : Type} {f : Nat → Option α} {x : α} : ∀ m i : Nat, i < m → f i = some x → (∀ j, j < i → f j = none) → (List.range m).findSome? f = some x
  | 0, _, h, _, _ => absurd h (Nat.not_lt_zero _)
  | m + 1, i, h, e, n => by
    rw [List.range_succ, List.findSome?_append]
    by_cases c : i < m
    · rw [findSome_first m i c e n]
      rfl
    · have c2 : i = m := by omega
      subst c2
      have : (List.range i).findSome? f = none := List.findSome?_eq_none_iff.mpr fun j hj => n j (List.mem_range.mp hj)
      rw [this, List.findSome?_cons, e]
      rfl
theorem findSome_none {α : Type} {f : Nat → Option α} {m : Nat} (n : ∀ j, j < m → f j = none) : (List.range m).findSome? f = none := List.findSome?_eq_none_iff.mpr fun j hj => n j (List.mem_range.mp hj)
/-- one step of the first of the fewest -/
theorem few_step {b : Bool} {p : List Int} (h : IsP b p) {m : Nat} (e : dist b p = m + 1) :
    ∃ t, 1 ≤ t ∧ t ≤ p.length ∧ dist b (tflip b p t) = m ∧ (∀ u, 1 ≤ u → u < t → dist b (tflip b p u) ≠ m) ∧ few b p = (t : Int) :: few b (tflip b p t) := by
  obtain ⟨t0, h1, h2, h3⟩ := dist_step h e
  obtain ⟨t, ⟨g1, g2, g3⟩, g4⟩ := least_nat (fun t => 1 ≤ t ∧ t ≤ p.length ∧ dist b (tflip b p t) = m) t0 ⟨h1, h2, h3⟩
  refine ⟨t, g1, g2, g3, fun u hu ht hd => g4 u ht ⟨hu, by omega, hd⟩, ?_⟩
  unfold few
  rw [e, g3]
  have hf : (List.range p.length).find? (fun i => decide (dist b (tflip b p (i + 1)) = m)) = some (t - 1) := by
    refine find_first _ _ (by omega) ?_ fun j hj => ?_
    · rw [show t - 1 + 1 = t by omega]
      exact decide_eq_true g3
    · refine decide_eq_false fun hd => g4 (j + 1) (by omega) ⟨by omega, by omega, hd⟩
  show (match (List.range p.length).find? (fun i => decide (dist b (tflip b p (i + 1)) = m)) with
    | some i => ((i + 1 : Nat) : Int) :: fst b m (tflip b p (i + 1))
    | none => []) = _
  rw [hf]
  show ((t - 1 + 1 : Nat) : Int) :: fst b m (tflip b p (t - 1 + 1)) = _
  rw [show t - 1 + 1 = t by omega]
theorem few_zero {b : Bool} {p : List Int} (e : dist b p = 0) : few b p = [] := by
  unfold few
  rw [e]
  rfl
theorem few_sorts {b : Bool} : ∀ (m : Nat) {p : List Int}, IsP b p → dist b p = m → Sorts b p (few b p) ∧ (few b p).length = m
  | 0, p, h, e => by
    rw [few_zero e]
    exact ⟨⟨fun t ht => absurd ht (by simp), (dist_zero h).mp e⟩, rfl⟩
  | m + 1, p, h, e => by
    obtain ⟨t, h1, h2, h3, _, h5⟩ := few_step h e
    obtain ⟨i1, i2⟩ := few_sorts m (h.flip t) h3
    rw [h5]
    refine ⟨sorts_cons h1 h2 i1, ?_⟩
    rw [List.length_cons, i2]
theorem few_ok {b : Bool} {p : List Int} (h : IsP b p) : Sorts b p (few b p) := (few_sorts _ h rfl).1
theorem few_len {b : Bool} {p : List Int} (h : IsP b p) : (few b p).length = dist b p := (few_sorts _ h rfl).2
theorem few_first {b : Bool} {p : List Int} (h : IsP b p) {t : Nat} (h1 : 1 ≤ t) (h2 : t ≤ p.length) (e : dist b (tflip b p t) + 1 = dist b p) (n : ∀ u, 1 ≤ u → u < t → dist b (tflip b p u) + 1 ≠ dist b p) : few b p = (t : Int) :: few b (tflip b p t) := by
  obtain ⟨v, v1, v2, v3, v4, v5⟩ := few_step h e.symm
  have ev : v = t := by
    rcases Nat.lt_trichotomy v t with c | c | c
    · exact absurd (by omega) (n v v1 c)
    · exact c
    · exact absurd rfl (v4 t h1 c)
  rw [v5, ev]
theorem few_none {b : Bool} {p : List Int} (h : IsP b p) (n : ∀ u, 1 ≤ u → u ≤ p.length → dist b (tflip b p u) + 1 ≠ dist b p) : few b p = [] := by
  refine few_zero ?_
  cases e : dist b p with
  | zero => rfl
  | succ m =>
    obtain ⟨t, h1, h2, h3⟩ := dist_step h e
    exact absurd (by omega) (n t h1 h2)
theorem few_nil {b : Bool} {p : List Int} (h : IsP b p) : few b p = [] ↔ p = upto p.length := by
  rw [← dist_zero h, ← few_len h, List.length_eq_zero_iff]
/-! ### the search -/
def lo (b : Bool) : Nat := if b = true then 1 else 2
def srch (b : Bool) : Nat → List Int → Nat → Option (List Int)
  | 0, p, _ => if gapn b p = 0 then some [] else none
  | l + 1, p, last => if gapn b p = 0 then some [] else if l + 1 < gapn b p then none else
    (List.range (p.length + 1 - lo b)).findSome? fun i => if lo b + i = last then none else (srch b l (tflip b p (lo b + i)) (lo b + i)).map fun ts => ((lo b + i : Nat) : Int) :: ts
theorem lo_pos (b : Bool) : 1 ≤ lo b := by cases b <;> decide
theorem pflip_one (p : List Int) : pflip p 1 = p := by
  cases p with
  | nil => rfl
  | cons x xs => rfl
theorem lo_low {b : Bool} {p : List Int} {u : Nat} (h1 : 1 ≤ u) (h2 : u < lo b) : tflip b p u = p := by
  cases b with
  | true => exact absurd h2 (by show ¬ u < 1; omega)
  | false =>
    have h2 : u < 2 := h2
    have : u = 1 := by omega
    subst this
    exact pflip_one p
theorem srch_none {b : Bool} : ∀ (l : Nat) {p : List Int} {last : Nat}, IsP b p → l < dist b p → srch b l p last = none
  | 0, p, last, h, hd => by
    unfold srch
    rw [if_neg (fun e => by have := (gapn_zero h).mp e; omega)]
  | l + 1, p, last, h, hd => by
    unfold srch
    rw [if_neg (fun e => by have := (gapn_zero h).mp e; omega)]
    by_cases hg : l + 1 < gapn b p
    · rw [if_pos hg]
    · rw [if_neg hg]
      refine findSome_none fun j hj => ?_
      have hl := lo_pos b
      by_cases e : lo b + j = last
      · rw [if_pos e]
      · rw [if_neg e, srch_none l (h.flip _) (by have := dist_down h (t := lo b + j) (by omega) (by omega); omega)]
        rfl
theorem srch_some {b : Bool} : ∀ (l : Nat) {p : List Int} {last : Nat}, IsP b p → dist b p = l → dist b (tflip b p last) + 1 ≠ dist b p → srch b l p last = some (few b p)
  | 0, p, last, h, hd, _ => by
    unfold srch
    rw [if_pos ((gapn_zero h).mpr hd), few_zero hd]
  | l + 1, p, last, h, hd, hl => by
    have hg := gapn_dist h
    unfold srch
    rw [if_neg (fun e => by have := (gapn_zero h).mp e; omega), if_neg (by omega)]
    obtain ⟨t, h1, h2, h3, h4, h5⟩ := few_step h hd
    have ht : lo b ≤ t := Nat.le_of_not_lt fun hc => by
      rw [lo_low h1 hc] at h3
      omega
    have et : lo b + (t - lo b) = t := by omega
    refine findSome_first _ (t - lo b) (by omega) ?_ fun j hj => ?_
    · rw [et, if_neg (fun e => hl (by rw [← e, h3, hd])), srch_some l (h.flip t) h3 (by rw [tflip_tflip b h2, h3, hd]; omega), h5]
      rfl
    · have hp := lo_pos b
      by_cases e : lo b + j = last
      · rw [if_pos e]
      · rw [if_neg e, srch_none l (h.flip _) ?_]
        · rfl
        · have a := h4 (lo b + j) (by omega) (by omega)
          have c := dist_down h (t := lo b + j) (by omega) (by omega)
          omega
theorem tflip_zero (b : Bool) (p : List Int) : tflip b p 0 = p := by
  rw [tflip_g]
  rfl
theorem srch_first {b : Bool} {p : List Int} (h : IsP b p) : srch b (dist b p) p 0 = some (few b p) := srch_some _ h rfl (by rw [tflip_zero]; omega)
def sstep (b : Bool) (l : Nat) (p : List Int) (last : Nat) (i : Nat) : Option (List Int) := if lo b + i = last then none else (srch b l (tflip b p (lo b + i)) (lo b + i)).map fun ts => ((lo b + i : Nat) : Int) :: ts
theorem srch_gap0 {b : Bool} {l : Nat} {p : List Int} {last : Nat} (h : gapn b p = 0) : srch b l p last = some [] := by
  cases l with
  | zero =>
    unfold srch
    rw [if_pos h]
  | succ l =>
    unfold srch
    rw [if_pos h]
theorem srch_big {b : Bool} {l : Nat} {p : List Int} {last : Nat} (h : l < gapn b p) : srch b l p last = none := by
  cases l with
  | zero =>
    unfold srch
    rw [if_neg (by omega)]
  | succ l =>
    unfold srch
    rw [if_neg (by omega), if_pos h]
theorem srch_go {b : Bool} {l : Nat} {p : List Int} {last : Nat} (h0 : gapn b p ≠ 0) (h : ¬ l + 1 < gapn b p) : srch b (l + 1) p last = (List.range (p.length + 1 - lo b)).findSome? (sstep b l p last) := by
  rw [srch, if_neg h0, if_neg h] <;> rfl
theorem srch_len {b : Bool} : ∀ (l : Nat) {p ts : List Int} {last : Nat}, srch b l p last = some ts → ts.length ≤ l
  | 0, p, ts, last, h => by
    unfold srch at h
    split at h
    · cases h
      exact Nat.le_refl _
    · cases h
  | l + 1, p, ts, last, h => by
    by_cases h0 : gapn b p = 0
    · rw [srch_gap0 h0] at h
      cases h
      exact Nat.zero_le _
    by_cases h1 : l + 1 < gapn b p
    · rw [srch_big h1] at h
      cases h
    rw [srch_go h0 h1] at h
    obtain ⟨i, _, hi⟩ := List.exists_of_findSome?_eq_some h
    unfold sstep at hi
    split at hi
    · cases hi
    · obtain ⟨us, e1, e2⟩ := Option.map_eq_some_iff.mp hi
      have := srch_len l e1
      rw [← e2, List.length_cons]
      omega
/-! ### the way back -/
def OkTs (n : Nat) (ts : List Int) : Prop := ∀ t ∈ ts, 0 ≤ t ∧ t ≤ n
theorem behind_back (b : Bool) : ∀ (ts p : List Int), OkTs p.length ts → tbehind b (tbehind b p ts) ts.reverse = p
  | [], _, _ => rfl
  | t :: ts, p, h => by
    have h1 := h t List.mem_cons_self
    rw [List.reverse_cons, tbehind_cons, tbehind_snoc, behind_back b ts _ (fun u hu => by rw [tflip_length]; exact h u (List.mem_cons_of_mem _ hu)), tflip_tflip b (by omega)]
/-- a pile that came of the one in order -/
theorem made_dist (b : Bool) {n : Nat} {ts : List Int} (h : ∀ t ∈ ts, 1 ≤ t ∧ t ≤ (n : Int)) : dist b (tbehind b (upto n) ts) ≤ ts.length := by
  have : Sorts b (tbehind b (upto n) ts) ts.reverse := ⟨fun t ht => by
    have := h t (List.mem_reverse.mp ht)
    rw [tbehind_length, upto_length]
    exact this, by
    rw [behind_back b ts _ (fun t ht => by have := h t ht; rw [upto_length]; omega), tbehind_length, upto_length]⟩
  have := dist_le this
  rw [List.length_reverse] at this
  exact this
theorem moved_dist (b : Bool) : ∀ (ts : List Int) {p : List Int}, IsP b p → (∀ t ∈ ts, 1 ≤ t ∧ t ≤ (p.length : Int)) → dist b (tbehind b p ts) ≤ dist b p + ts.length ∧ dist b p ≤ dist b (tbehind b p ts) + ts.length
  | [], _, _, _ => ⟨Nat.le_refl _, Nat.le_refl _⟩
  | t :: ts, p, h, ok => by
    have h1 := ok t List.mem_cons_self
    obtain ⟨i1, i2⟩ := moved_dist b ts (h.flip t.toNat) (fun u hu => by rw [tflip_length]; exact ok u (List.mem_cons_of_mem _ hu))
    have a := dist_down h (t := t.toNat) (by omega) (by omega)
    have c := dist_up h (t := t.toNat) (by omega) (by omega)
    rw [tbehind_cons, List.length_cons]
    omega
/-! ### between two piles -/
def relab (other one : List Int) : List Int := one.map fun c => ((other.idxOf c : Nat) : Int) + 1
theorem relab_length (o p : List Int) : (relab o p).length = p.length := List.length_map _
theorem relab_self {o : List Int} (nd : o.Nodup) : relab o o = upto o.length := by
  refine ext_getD (by rw [relab_length, upto_length]) fun k hk => ?_
  rw [relab_length] at hk
  rw [upto_getD hk]
  unfold relab
  rw [List.getD_eq_getElem?_getD, List.getElem?_map, List.getElem?_eq_getElem hk]
  show ((o.idxOf o[k] : Nat) : Int) + 1 = _
  have := idx_at nd hk
  rw [List.getD_eq_getElem?_getD, List.getElem?_eq_getElem hk] at this
  have h2 : o.idxOf o[k] = k := this
  rw [h2]
  omega
theorem relab_upto {p : List Int} (h : IsPile p) : relab (upto p.length) p = p := by
  unfold relab
  have : p.map (fun c => (((upto p.length).idxOf c : Nat) : Int) + 1) = p.map id := List.map_congr_left fun c hc => by
    have hm := h.mem.mp hc
    have h1 : c.toNat - 1 < (upto p.length).length := by rw [upto_length]; omega
    have h2 := idx_at (upto_nodup p.length) h1
    rw [upto_getD (by rw [upto_length] at h1; exact h1), show (1 : Int) + ((c.toNat - 1 : Nat) : Int) = c by omega] at h2
    rw [h2]
    show ((c.toNat - 1 : Nat) : Int) + 1 = c
    omega
  rw [this, List.map_id]
theorem pile_perm {o p : List Int} (ho : IsPile o) (hp : IsPile p) (e : o.length = p.length) : p.Perm o := hp.2.2.trans (by rw [← e]; exact ho.2.2.symm)
theorem relab_pile {o p : List Int} (ho : IsPile o) (hp : IsPile p) (e : o.length = p.length) : IsPile (relab o p) := by
  unfold IsPile
  rw [relab_length]
  refine ⟨hp.1, hp.2.1, ?_⟩
  have h1 : (relab o p).Perm (relab o o) := (pile_perm ho hp e).map _
  rw [relab_self ho.nodup, e] at h1
  exact h1
theorem relab_flip (o p : List Int) (k : Nat) : relab o (tflip false p k) = tflip false (relab o p) k := by
  show relab o (pflip p k) = pflip (relab o p) k
  unfold relab pflip
  rw [List.map_append, List.map_reverse, List.map_take, List.map_drop]
theorem relab_behind (o : List Int) : ∀ (ts p : List Int), relab o (tbehind false p ts) = tbehind false (relab o p) ts
  | [], _ => rfl
  | t :: ts, p => by rw [tbehind_cons, tbehind_cons, relab_behind o ts, relab_flip]
theorem relab_back {o p : List Int} (h : ∀ c ∈ p, c ∈ o) : (relab o p).map (fun x => o.getD (x - 1).toNat 0) = p := by
  unfold relab
  rw [List.map_map]
  have : p.map ((fun x => o.getD (x - 1).toNat 0) ∘ fun c => ((o.idxOf c : Nat) : Int) + 1) = p.map id := List.map_congr_left fun c hc => by
    show o.getD (((o.idxOf c : Nat) : Int) + 1 - 1).toNat 0 = c
    rw [show (((o.idxOf c : Nat) : Int) + 1 - 1).toNat = o.idxOf c by omega]
    exact (idx_get (h c hc)).2
  rw [this, List.map_id]
theorem relab_inj {o p q : List Int} (h1 : ∀ c ∈ p, c ∈ o) (h2 : ∀ c ∈ q, c ∈ o) (e : relab o p = relab o q) : p = q := by
  rw [← relab_back h1, e, relab_back h2]
theorem tbehind_perm (ts : List Int) : ∀ p : List Int, (tbehind false p ts).Perm p := by
  induction ts with
  | nil => exact fun p => List.Perm.refl _
  | cons t ts ih =>
    intro p
    rw [tbehind_cons]
    exact (ih _).trans (pflip_perm p t.toNat)
/-- turns that sort the one with its cakes called by their places make the other -/
theorem relab_sorts {o p ts : List Int} (ho : IsPile o) (hp : IsPile p) (e : o.length = p.length) : Sorts false (relab o p) ts ↔ (∀ t ∈ ts, 1 ≤ t ∧ t ≤ p.length) ∧ tbehind false p ts = o := by
  have pm := pile_perm ho hp e
  constructor
  · rintro ⟨h1, h2⟩
    rw [relab_length] at h1 h2
    refine ⟨h1, ?_⟩
    rw [← relab_behind, ← e, ← relab_self ho.nodup] at h2
    exact relab_inj (fun c hc => pm.mem_iff.mp ((tbehind_perm ts p).mem_iff.mp hc)) (fun c hc => hc) h2
  · rintro ⟨h1, h2⟩
    refine ⟨by rw [relab_length]; exact h1, ?_⟩
    rw [relab_length, ← relab_behind, h2, relab_self ho.nodup, e]
theorem relab_dist_le {o p : List Int} (ho : IsPile o) (hp : IsPile p) (e : o.length = p.length) : dist false (relab p o) ≤ dist false (relab o p) := by
  obtain ⟨⟨ts, s, l⟩, _⟩ := dist_spec (b := false) (relab_pile ho hp e)
  obtain ⟨h1, h2⟩ := (relab_sorts ho hp e).mp s
  have hb : tbehind false o ts.reverse = p := by
    rw [← h2]
    exact behind_back false ts p fun t ht => by have := h1 t ht; omega
  have := dist_le ((relab_sorts hp ho e.symm).mpr ⟨fun t ht => by rw [e]; exact h1 t (List.mem_reverse.mp ht), hb⟩)
  rw [List.length_reverse] at this
  omega
theorem relab_dist {o p : List Int} (ho : IsPile o) (hp : IsPile p) (e : o.length = p.length) : dist false (relab p o) = dist false (relab o p) :=
  Nat.le_antisymm (relab_dist_le ho hp e) (relab_dist_le hp ho e.symm)
theorem relab_nil {o p : List Int} (ho : IsPile o) (hp : IsPile p) (e : o.length = p.length) : few false (relab o p) = [] ↔ p = o := by
  have hr := relab_pile ho hp e
  have hl := few_len (b := false) hr
  have pm := pile_perm ho hp e
  constructor
  · intro h
    rw [h] at hl
    have h0 := (dist_zero (b := false) hr).mp hl.symm
    rw [relab_length, ← e, ← relab_self ho.nodup] at h0
    exact relab_inj (fun c hc => pm.mem_iff.mp hc) (fun c hc => hc) h0
  · intro h
    subst h
    exact few_zero ((dist_zero (b := false) hr).mpr (by rw [relab_length, relab_self ho.nodup]))
end FL
namespace FL
open PySem PySem.Spec PyProof.Rows L2
/-! ## a def that is handed the exception which a suite holds -/
structure FnE (P : Program) (w : World) (K : PySem.W.Frag) (mg : Str → Option Value) (base : Heap) (k : Nat) (f : Addr) (fd : FuncData) (ps : List Str) (sp : Addr × Obj → Sp) : Prop where
  many : ∀ z vs H Q E, sp z vs H Q E → vs.length = ps.length
  go : ∀ (z : Addr × Obj) (A : Around) (outer : List Env) (s : Shared) (H : Hp) (ar : Args) (us : List Value) (vs : List V) (Q : VK), L2H.RoomH k A → L2H.PinOk outer H s z → Env0 P w K mg base A outer s H → BindsTo s fd ar (ps.zip us) → Vals vs us → sp z vs H Q (fun _ _ _ => False) →
    codeAny (model P w) A (.call (.ref f) ar) (CR CX0 outer P w H s Q fun _ _ _ => False) s
theorem fnE_of {P : Program} {w : World} {K : PySem.W.Frag} {mg : Str → Option Value} {base : Heap} {x qual : Str} {st : Stmt} {f : Addr} {fd : FuncData} {N ps : List Str} {k : Nat} {sp : Addr × Obj → Sp} (F : Fun K x qual st f fd) (S : FnScope N ps (defScope st))
    (many : ∀ z vs H Q E, sp z vs H Q E → vs.length = ps.length)
    (hbody : ∀ (z : Addr × Obj) (cdv : Value) (A : Around) (outer : List Env) (s : Shared) (H : Hp) (vs : List V) (Q : VK), L2H.RoomH k (A.deeper (envOfC qual (defScope st) s.heap.objs.size f cdv)) → sp z vs H Q (fun _ _ _ => False) →
      ∃ t, PSs (L2H.cxH CX0 P w K mg base N qual (defScope st) f cdv A outer s H (fun _ _ _ => False) z) (defBody st) t ∧ t { nx := fun _ H' => Q .non H', rt := Q } (L2.start N vs) H) :
    FnE P w K mg base (k + 1) f fd ps sp := by
  obtain ⟨oc, od, kV, doc, pm, an, cdv, ct, osl, rfl, lk, hcd⟩ := F.ex
  refine ⟨many, fun z A outer s H ar us vs Q hr hz e0 bd rv hsp => ?_⟩
  have nn := many _ _ _ _ _ hsp
  have KX : K.In s.heap := e0.mod.kin.keeps fun c o e => (e0.bs c o e).1
  have lim : s.heap.NoLimit := e0.mod.nolimit.keeps fun c o e => (e0.bs c o e).1
  have kinds : ∀ y ∈ ps.zip us, (defScope st).names.lookup y.1 = some .local ∨ ((defScope st).names.lookup y.1 = some .cell ∧ ((cellsFrom (s.heap.objs.size + 1) (defScope st).names []).lookup y.1).isSome = true) := by
    rintro ⟨n, v⟩ hy
    rcases S.par n (List.of_mem_zip hy).1 with c | c
    · exact .inl c
    · exact .inr ⟨c, PySem.W.cellsFrom_some _ _ _ (.inl c)⟩
  refine codeAny_call_function hr.depth (KX _ _ lk) rfl S.co S.gen rfl (PySem.W.codeRec_of KX hcd) (bd _ _ _ _ (wpAny_newFunctionEnv_cells S.kind kinds fun env he s1 ic => ?_))
  subst he
  obtain ⟨t, pt, ht⟩ := hbody z cdv A outer s H vs Q (hr.deeper _) hsp
  have I := L2H.inv_startH (CX := CX0) (E := fun _ _ _ => False) S hz e0 nn rv ic
  refine ⟨lim.keeps ic.toInCall.keep, codeAny_func (wpAny_mono (pt.run [] s1 (L2.start N vs) H _ I ht) (fun fl s2 hs => ?_) fun _ _ hs => hs)⟩
  cases fl with
  | brk => exact False.elim hs.choose_spec.choose_spec.2
  | cont => exact False.elim hs.choose_spec.choose_spec.2
  | next =>
    obtain ⟨σ2, H2, J, q⟩ := hs
    exact ⟨V.non, H2, J.os, J.bare, J.base, J.hok, rfl, q⟩
  | ret u =>
    obtain ⟨v, σ2, H2, J, ru, q⟩ := hs
    exact ⟨v, H2, J.os, J.bare, J.base, J.hok, ru, q⟩
section
variable {X : Cx} {k : Nat} {f : Addr} {fd : FuncData} {ps : List Str} {sp : Addr × Obj → Sp} {x : Str} {q pos : Pos} {e : Expr} {es : List Expr} {t : TA} {z : Addr × Obj}
theorem pe_callE (F : FnE X.prog X.w X.K X.mg X.base k f fd ps sp) (hr : L2H.RoomH k X.A) (hz : z ∈ X.pn) (hg : Gl X x) (hm : X.mg x = some (.ref f)) (hk : PySem.W.keepIn X.K (.ref f) = true) (hb : Binds X.K fd ps [])
    (ha : PA X (e :: es) t) (hdb : (x == ("__debug__" : Str)) = false := by decide) (he : starEach (e :: es) X.env = (false, eval e X.env) :: starEach es X.env := by rfl) (hpl : (backTo pos (starEach es X.env)).any (·.1) = false := by rfl) :
    PE X (.Call (.Name x q) (e :: es) [] pos) (fun σ H Q => t σ H fun vs H1 => sp z vs H1 Q fun _ _ _ => False) := by
  refine ⟨fun pins s σ H Q I h => wpAny_Call_Name_kw (ld_glob I hg hm (PySem.W.callWith_K (h₀ := X.base) I.ok.mod.kin hk (thn (ha.run pos pins s σ H _ I h) fun us s1 ⟨vs, H1, J, rv, hsp⟩ => ⟨J.kIn, ?_⟩) he hpl) hdb)⟩
  have nn : us.length = ps.length := by
    rw [← rv.length]
    exact F.many _ _ _ _ _ hsp
  have bd := hb s1 us J.kIn (by rw [List.append_nil]; exact nn)
  rw [List.append_nil] at bd
  obtain ⟨g1, g2, g3, g4, g5⟩ := J.pin z (List.mem_append_left _ hz)
  have pz : L2H.PinOk X.stack H1 s1 z := ⟨g1, g2, fun hm => by
    rcases List.mem_cons.mp (J.stkSub z.1 hm) with c | c
    · exact g3 c
    · exact g4 c, g5⟩
  refine wpAny_call (codeAny_mono (F.go z X.A X.stack s1 H1 ⟨us, []⟩ us vs Q hr pz J.env0 bd rv hsp) fun r s2 hq => ?_)
  cases r with
  | error e => exact False.elim hq
  | ok fl =>
    cases fl with
    | ret u => exact J.after hq
    | next => exact False.elim hq
    | brk => exact False.elim hq
    | cont => exact False.elim hq
end
/-- isinstance of a pinned exception -/
def rIsP (K : PySem.W.Frag) (D a : Addr) : List V → Hp → VK → Prop := fun xs H Q => ∃ (c : V) (cv : Value) (b : Bool), xs = [.ref a, c] ∧ (∀ u, RelV c u → u = cv) ∧ PySem.W.kitOne K (.ref D) cv = some b ∧ Q (.bl b) H
theorem call_isP {X : Cx} {D : Addr} {z : Addr × Obj} (C : ExcC X.K D) (hp : z ∈ X.pn) (hz : Zc (.ref D) none z.2) (hf : ∃ vs, z.2.data = .fields vs) : CallR X (.builtin "isinstance") (rIsP X.K D z.1) := by
  rintro pins s σ H xs us Q I r ⟨c, cv, b, rfl, hcv, ek, q⟩
  match us, r with
  | [_, u], .cons r1 (.cons r2 .nil) =>
    cases r1
    obtain rfl := hcv _ r2
    obtain ⟨a, oe⟩ := z
    obtain ⟨hg, _⟩ := I.pin (a, oe) (List.mem_append_left _ hp)
    obtain ⟨vs, hv⟩ := hf
    have J : PySem.W.InstAt s.heap a oe D none := by
      obtain ⟨o1, o2, o3, o4⟩ := oe
      obtain ⟨z1, z2⟩ := hz
      dsimp only at z1 z2 hv
      subst z1 z2 hv
      exact ⟨hg, rfl, rfl, trivial⟩
    exact PySem.W.kia_one (PySem.W.handS_kitx_exc C.hg C.hk C.hs C.hd C.ha C.hn C.ht C.hm) I.kIn J ek (fun y => nomatch y) fun tk => ⟨.bl b, H, I.kept (t' := tk) fun _ _ y => y, rfl, q⟩
/-! ## methods and makings whose errors are caught or go on -/
section
variable {X : Cx} {W : WX} {k : Nat} {f C : Addr} {fd : FuncData} {ps : List Str} {sp : Sp} {x m : Str} {p pos apos : Pos} {e o : Expr} {es : List Expr} {ta : TE} {t : TA}
def tMet (C : Addr) (m : Str) (sp : Sp) (W : WX) (ta : TE) (t : TA) : TE := fun σ H Q => ta σ H fun x H1 => ∃ a dx fs, x = .ref a ∧ H1 a = some (.ins C dx fs) ∧ fs.lookup m = none ∧ t σ H1 fun vs H2 => sp (x :: vs) H2 Q (WE W σ)
theorem pe_metS {pl : Sem Bool} (he : PE X o ta) (c : Cls X.K C) (hm : Meth X.K C m f) (F : FnOk X.prog X.w X.K X.mg X.base (L2.CX X.prog X.w) k f fd ps sp) (hr : Room k X.A) (hb : Binds X.K fd ps []) (tk : Takes X W) (ha : PA X (e :: es) t)
    (hst : starEach (e :: es) X.env = (false, eval e X.env) :: starEach es X.env := by rfl) (hpl : (backTo pos (starEach es X.env)).any (·.1) = false := by rfl)
    (ht : eval (.Call (.Attribute o m apos) (e :: es) [] pos) X.env = (do
      let r0 ← eval o X.env
      standAt apos.atName
      let (g, fst) ← holding [r0] (getMethod r0 m pl)
      callWith pos g fst (backTo pos (starEach (e :: es) X.env)) (backToKw pos (keywordEach [] X.env))) := by rfl) :
    PE X (.Call (.Attribute o m apos) (e :: es) [] pos) (tMet C m sp W ta t) := by
  refine ⟨fun pins s σ H Q I h => PySem.W.methodCall_KW (pl := pl) (thn (he.run pins s σ H _ I h) fun u s1 ⟨y, H1, J, ry, a, dx, fs, ey, ea, l, q⟩ => ?_) ht⟩
  subst ey
  obtain rfl : u = Value.ref a := ry
  exact getmeth_ok J ea c hm l (PySem.W.callWith_K (first := [.ref a]) (h₀ := X.base) J.ok.mod.kin hm.kp (thn (ha.run pos pins s1 σ H1 _ J q) fun us s2 ⟨vs, H2, J2, r, q2⟩ => ⟨J2.kIn, run_fnS (E := WE W) (us := .ref a :: us) (vs := .ref a :: vs) F hr hb (passAt tk σ) J2 (.cons rfl r) q2⟩) hst hpl)
theorem pe_metS0 {pl : Sem Bool} (he : PE X o ta) (c : Cls X.K C) (hm : Meth X.K C m f) (F : FnOk X.prog X.w X.K X.mg X.base (L2.CX X.prog X.w) k f fd ps sp) (hr : Room k X.A) (hb : Binds X.K fd ps []) (tk : Takes X W)
    (ht : eval (.Call (.Attribute o m apos) [] [] pos) X.env = (do
      let r0 ← eval o X.env
      standAt apos.atName
      let (g, fst) ← holding [r0] (getMethod r0 m pl)
      callWith pos g fst (backTo pos (starEach [] X.env)) (backToKw pos (keywordEach [] X.env))) := by rfl) :
    PE X (.Call (.Attribute o m apos) [] [] pos) (tMet C m sp W ta tNil) := by
  refine ⟨fun pins s σ H Q I h => PySem.W.methodCall_KW (pl := pl) (thn (he.run pins s σ H _ I h) fun u s1 ⟨y, H1, J, ry, a, dx, fs, ey, ea, l, q⟩ => ?_) ht⟩
  subst ey
  obtain rfl : u = Value.ref a := ry
  exact getmeth_ok J ea c hm l (PySem.W.callWith_K0 (first := [.ref a]) J.kIn hm.kp (run_fnS (E := WE W) (us := [.ref a]) (vs := [.ref a]) F hr hb (passAt tk σ) J (.cons rfl .nil) q))
end
structure CalM (P : Program) (w : World) (K : PySem.W.Frag) (mg : Str → Option Value) (base : Heap) (C : Addr) (m : Str) (k : Nat) (ps : List Str) (sp : Sp) : Prop where
  ex : ∃ (f : Addr) (fd : FuncData), FnOk P w K mg base (L2.CX P w) k f fd ps sp ∧ Meth K C m f ∧ Binds K fd ps []
structure CalI (P : Program) (w : World) (K : PySem.W.Frag) (mg : Str → Option Value) (base : Heap) (C : Addr) (k : Nat) (ps : List Str) (sp : Sp) : Prop where
  ex : ∃ (f : Addr) (fd : FuncData), FnOk P w K mg base (L2.CX P w) k f fd ps sp ∧ Mk K C f ∧ Binds K fd ps []
structure CalE (P : Program) (w : World) (K : PySem.W.Frag) (mg : Str → Option Value) (base : Heap) (x : Str) (k : Nat) (ps : List Str) (sp : Addr × Obj → Sp) : Prop where
  ex : ∃ (f : Addr) (fd : FuncData), FnE P w K mg base k f fd ps sp ∧ mg x = some (.ref f) ∧ PySem.W.keepIn K (.ref f) = true ∧ Binds K fd ps []
section
variable {X : Cx} {W : WX} {k j : Nat} {C : Addr} {ps : List Str} {sp : Sp} {x m : Str} {p pos apos : Pos} {e o : Expr} {es : List Expr} {ta : TE} {t : TA}
theorem pe_met (c : Cls X.K C) (G : CalM X.prog X.w X.K X.mg X.base C m j ps sp) (hr : Room k X.A) (hj : j ≤ k) (tk : Takes X W) (he : PE X o ta) (ha : PA X (e :: es) t) {pl : Sem Bool}
    (hst : starEach (e :: es) X.env = (false, eval e X.env) :: starEach es X.env := by rfl) (hpl : (backTo pos (starEach es X.env)).any (·.1) = false := by rfl)
    (ht : eval (.Call (.Attribute o m apos) (e :: es) [] pos) X.env = (do
      let r0 ← eval o X.env
      standAt apos.atName
      let (g, fst) ← holding [r0] (getMethod r0 m pl)
      callWith pos g fst (backTo pos (starEach (e :: es) X.env)) (backToKw pos (keywordEach [] X.env))) := by rfl) :
    PE X (.Call (.Attribute o m apos) (e :: es) [] pos) (tMet C m sp W ta t) := by
  obtain ⟨f, fd, F, hm, hb⟩ := G.ex
  exact pe_metS he c hm F (hr.mono hj) hb tk ha hst hpl ht
theorem pe_met0 (c : Cls X.K C) (G : CalM X.prog X.w X.K X.mg X.base C m j ps sp) (hr : Room k X.A) (hj : j ≤ k) (tk : Takes X W) (he : PE X o ta) {pl : Sem Bool}
    (ht : eval (.Call (.Attribute o m apos) [] [] pos) X.env = (do
      let r0 ← eval o X.env
      standAt apos.atName
      let (g, fst) ← holding [r0] (getMethod r0 m pl)
      callWith pos g fst (backTo pos (starEach [] X.env)) (backToKw pos (keywordEach [] X.env))) := by rfl) :
    PE X (.Call (.Attribute o m apos) [] [] pos) (tMet C m sp W ta tNil) := by
  obtain ⟨f, fd, F, hm, hb⟩ := G.ex
  exact pe_metS0 he c hm F (hr.mono hj) hb tk ht
/-- C(e, ..): what it raises goes on as it is -/
theorem pe_mak {E : XK} (G : CalI X.prog X.w X.K X.mg X.base C j ps sp) (hr : Room k X.A) (hj : j + 1 ≤ k) (hm : X.mg x = some (.ref C)) (tk : Takes X (fun cls d _ H => E cls d H)) (hg : Gl X x) (ha : PA X (e :: es) t)
    (hdb : (x == ("__debug__" : Str)) = false := by decide) (he : starEach (e :: es) X.env = (false, eval e X.env) :: starEach es X.env := by rfl) (hpl : (backTo pos (starEach es X.env)).any (·.1) = false := by rfl) :
    PE X (.Call (.Name x p) (e :: es) [] pos) (tMake C sp [] E t) := by
  obtain ⟨f, fd, F, M, hb⟩ := G.ex
  exact pe_make M F (hr.mono hj) hg hm hb .nil (passes_call tk fun _ _ _ _ h => h) ha hdb he hpl
end
/-! ## which error it is -/
structure Which (K : PySem.W.Frag) (c : ExA) (D : Addr) (b0 b1 b2 b3 b4 : Bool) : Prop where
  e : ExcC K D
  k0 : PySem.W.kitOne K (.ref D) (.ref c.NoPile) = some b0
  k1 : PySem.W.kitOne K (.ref D) (.ref c.NoTurn) = some b1
  k2 : PySem.W.kitOne K (.ref D) (.ref c.TooTall) = some b2
  k3 : PySem.W.kitOne K (.ref D) (.ref c.NoBack) = some b3
  k4 : PySem.W.kitOne K (.ref D) (.ref c.BadLine) = some b4
  kv : PySem.W.kitOne K (.ref D) (.type "ValueError") = some true
  m : PySem.W.exmOne K (.ref D) (.ref c.FlipError) = some true
theorem kit_self {K : PySem.W.Frag} (D : Addr) : PySem.W.kitOne K (.ref D) (.ref D) = some true := by
  unfold PySem.W.kitOne
  rw [if_pos (beq_self_eq_true _)]
theorem kit_ref {K : PySem.W.Frag} {D C : Addr} (hd : PySem.W.hasDictIn K C = true) (ht : PySem.W.typeIn K (.ref C) = some (.type "type")) (hs : PySem.W.subIn K (.ref D) (.ref C) = some false) (hc : PySem.W.subIn K (.ref C) (.ref C) = some true) : PySem.W.kitOne K (.ref D) (.ref C) = some false := by
  have ne : ¬ ((Value.ref D == Value.ref C) = true) := fun e => by
    have := Value.ref.inj (beq_iff_eq.mp e)
    subst this
    rw [hs] at hc
    cases hc
  obtain ⟨cd, hcl, _⟩ := PySem.W.any_some hd
  have e2 : ((PySem.W.clsIn K C).isSome && PySem.W.typeIn K (.ref C) == some (.type "type")) = true := by rw [hcl, ht] <;> rfl
  unfold PySem.W.kitOne PySem.W.kitCls
  rw [if_neg ne]
  show (if ((PySem.W.clsIn K C).isSome && PySem.W.typeIn K (.ref C) == some (.type "type")) = true then _ else _) = _
  rw [if_pos e2]
  exact hs
theorem kit_val {K : PySem.W.Frag} {D : Addr} (hm : PySem.W.kitMeta "ValueError" = true) (hs : PySem.W.subIn K (.ref D) (.type "ValueError") = some true) : PySem.W.kitOne K (.ref D) (.type "ValueError") = some true := by
  have ne : ¬ ((Value.ref D == Value.type "ValueError") = true) := fun e => by
    have := beq_iff_eq.mp e
    cases this
  unfold PySem.W.kitOne PySem.W.kitCls
  rw [if_neg ne]
  show (if PySem.W.kitMeta "ValueError" = true then _ else _) = _
  rw [if_pos hm]
  exact hs
def bls (b0 b1 b2 b3 b4 : Bool) : List V := [.bl b0, .bl b1, .bl b2, .bl b3, .bl b4, .bl true]
def sp_which (K : PySem.W.Frag) (c : ExA) : Addr × Obj → Sp := fun z vs H Q _ => ∃ (D : Addr) (b0 b1 b2 b3 b4 : Bool), vs = [.ref z.1] ∧ Zc (.ref D) none z.2 ∧ (∃ us, z.2.data = .fields us) ∧ Which K c D b0 b1 b2 b3 b4 ∧
  ∀ (q : Addr) (H' : Hp), Same H H' → H q = none → H' q = some (.lst (bls b0 b1 b2 b3 b4)) → Q (.ref q) H'
/-- told = _law_which(e) within the suite -/
def tWhich (K : PySem.W.Frag) (c : ExA) (i : Nat) (a : Addr) (cls : Value) (d : Option Addr) : TE := fun σ H Q => σ[i]? = some (some (.ref a)) ∧ d = none ∧ ∃ (D : Addr) (b0 b1 b2 b3 b4 : Bool), cls = .ref D ∧ Which K c D b0 b1 b2 b3 b4 ∧
  ∀ (q : Addr) (H' : Hp), Same H H' → H q = none → H' q = some (.lst (bls b0 b1 b2 b3 b4)) → Q (.ref q) H'
theorem PE.imp {X : Cx} {e : Expr} {t t' : TE} (h : PE X e t) (i : ∀ σ H Q, t' σ H Q → t σ H Q) : PE X e t' := ⟨fun pins s σ H Q I q => h.run pins s σ H Q I (i σ H Q q)⟩
theorem pe_which {X : Cx} {k j : Nat} {c : ExA} {a : Addr} {oe : Obj} {cls : Value} {d : Option Addr} {pn : List (Addr × Obj)} {i : Nat} {ps : List Str} {pos p q : Pos} {n : Str} (G : CalE X.prog X.w X.K X.mg X.base "_law_which" j ps (sp_which X.K c)) (hr : Room k X.A) (hj : j ≤ k)
    (hz : Zc cls d oe) (hf : ∃ us, oe.data = .fields us) (hg : Gl X "_law_which") (hv : PE (X.suite a ((a, oe) :: pn)) (.Name n q) (tVar i))
    (he : starEach [.Name n q] X.env = (false, eval (.Name n q) X.env) :: starEach [] X.env := by rfl) :
    PE (X.suite a ((a, oe) :: pn)) (.Call (.Name "_law_which" p) [.Name n q] [] pos) (tWhich X.K c i a cls d) := by
  obtain ⟨f, fd, F, hm, hk, hb⟩ := G.ex
  have r := hr.mono hj
  refine PE.imp (pe_callE (X := X.suite a ((a, oe) :: pn)) (z := (a, oe)) F ⟨r.dp, r.un⟩ List.mem_cons_self hg hm hk hb (pa_cons hv pa_nil)) ?_
  rintro σ H Q ⟨h1, rfl, D, b0, b1, b2, b3, b4, rfl, w, q⟩
  exact ⟨_, h1, D, b0, b1, b2, b3, b4, rfl, hz, hf, w, q⟩
end FL
namespace FL
open PySem PySem.Spec PyProof.Rows L2
/-! ## a stack's own fields -/
theorem ne_cd : ¬ (("cakes" : Str) = "done") := by decide +kernel
theorem ne_dc : ¬ (("done" : Str) = "cakes") := by decide +kernel
def sf (l d : Addr) : List (Str × V) := putF "done" (.ref d) (putF "cakes" (.ref l) [])
theorem sf_eq (l d : Addr) : sf l d = ([("cakes", V.ref l), ("done", V.ref d)] : List (Str × V)) := by
  show (if ("cakes" : Str) = "done" then [(("cakes" : Str), V.ref d)] else (("cakes" : Str), V.ref l) :: putF "done" (V.ref d) []) = ([("cakes", V.ref l), ("done", V.ref d)] : List (Str × V))
  rw [if_neg ne_cd] <;> rfl
theorem sf_done (l d : Addr) : (sf l d).lookup ("done" : Str) = some (.ref d) := by
  unfold sf
  rw [lookup_putF, if_pos rfl]
theorem sf_cakes (l d : Addr) : (sf l d).lookup ("cakes" : Str) = some (.ref l) := by
  unfold sf
  rw [lookup_putF, if_neg ne_cd, lookup_putF, if_pos rfl]
theorem sf_no (l d : Addr) {m : Str} (h1 : ¬ m = "done") (h2 : ¬ m = "cakes") : (sf l d).lookup m = none := by
  unfold sf
  rw [lookup_putF, if_neg h1, lookup_putF, if_neg h2] <;> rfl
theorem sf_put (l m d : Addr) : putF "cakes" (.ref m) (sf l d) = sf m d := by
  rw [sf_eq, sf_eq]
  show (if ("cakes" : Str) = "cakes" then (("cakes" : Str), V.ref m) :: [(("done" : Str), V.ref d)] else _) = ([("cakes", V.ref m), ("done", V.ref d)] : List (Str × V))
  rw [if_pos rfl]
theorem sf_short (l d : Addr) : (sf l d).length < 1000 := by
  rw [sf_eq]
  show 2 < 1000
  decide
/-- all stays but what stands at x -/
def But1 (x : Addr) (H H' : Hp) : Prop := ∀ b o, b ≠ x → H b = some o → H' b = some o
def But2 (x d : Addr) (H H' : Hp) : Prop := ∀ b o, b ≠ x → b ≠ d → H b = some o → H' b = some o
theorem ne_ins {H : Hp} {x l C dx : Addr} {fs : List (Str × V)} {xs : List V} (h1 : H x = some (.ins C dx fs)) (h2 : H l = some (.lst xs)) : l ≠ x := fun e => by
  rw [e, h1] at h2
  cases h2
/-- a stack at x, its turns at d; kept[0] (the list at kp) and done (at dn) tell the same -/
def StAt (C x dx d kp dn : Addr) (ns ts : List Int) (H : Hp) : Prop := ∃ l k0 : Addr, H x = some (.ins C dx (sf l d)) ∧ H l = some (.lst (ns.map V.int)) ∧ H d = some (.lst (ts.map V.int)) ∧ H kp = some (.lst [V.ref k0]) ∧ H k0 = some (.lst (ns.map V.int)) ∧ H dn = some (.lst (ts.map V.int)) ∧
  l ≠ d ∧ l ≠ kp ∧ l ≠ dn ∧ k0 ≠ d ∧ k0 ≠ kp ∧ k0 ≠ dn
def But4 (x d kp dn : Addr) (H H' : Hp) : Prop := ∀ b o, b ≠ x → b ≠ d → b ≠ kp → b ≠ dn → H b = some o → H' b = some o
theorem But4.of {x d kp dn : Addr} {H H' : Hp} (s : Same H H') : But4 x d kp dn H H' := fun b o _ _ _ _ e => s b o e
theorem But4.trans {x d kp dn : Addr} {H H' H'' : Hp} (s : But4 x d kp dn H H') (t : But4 x d kp dn H' H'') : But4 x d kp dn H H'' := fun b o h1 h2 h3 h4 e => t b o h1 h2 h3 h4 (s b o h1 h2 h3 h4 e)
theorem StAt.same {C x dx d kp dn : Addr} {ns ts : List Int} {H H' : Hp} (h : StAt C x dx d kp dn ns ts H) (s : Same H H') : StAt C x dx d kp dn ns ts H' := by
  obtain ⟨l, k0, h1, h2, h3, h4, h5, h6, h7⟩ := h
  exact ⟨l, k0, s _ _ h1, s _ _ h2, s _ _ h3, s _ _ h4, s _ _ h5, s _ _ h6, h7⟩
theorem ok_not (n : Nat) {t : Int} (h : t < 1 ∨ (n : Int) < t) : ¬ (1 ≤ t ∧ t ≤ (n : Int)) := fun x => by omega
theorem turn_ok (x : Int) {n : Nat} (h : 1 ≤ n) : 1 ≤ 1 + x % (n : Int) ∧ 1 + x % (n : Int) ≤ n := by
  have h1 := Int.emod_nonneg x (show ((n : Nat) : Int) ≠ 0 by omega)
  have h2 := Int.emod_lt_of_pos x (show (0 : Int) < ((n : Nat) : Int) by omega)
  omega
end FL
namespace FL
open PySem PySem.Spec PyProof.Rows L2 TL NumText
/-! ## numbers as texts -/
def istr (i : Int) : Str := toString i
def dgs (n : Nat) : Bool := (istr (n : Int)).cps.toList.all (fun c => decide (48 ≤ c) && decide (c ≤ 57)) && decide (1 ≤ (istr (n : Int)).length) && decide ((istr (n : Int)).length ≤ 2) && decide (PySem.intText? (istr (n : Int)) = some (n : Int)) &&
  decide ((istr (-(n : Int))).length ≤ 3) && decide ((istr (-(n : Int))).cps.toList = (if n = 0 then (istr (n : Int)).cps.toList else 45 :: (istr (n : Int)).cps.toList)) && (decide (n = 0) || decide ((istr (n : Int)).cps.toList.head? ≠ some 48))
theorem dgs_all : ∀ n : Nat, n < 13 → dgs n = true := by decide +kernel
structure Dgs (n : Nat) : Prop where
  fig : ∀ c ∈ tl (istr (n : Int)), 48 ≤ c ∧ c ≤ 57
  l1 : 1 ≤ (istr (n : Int)).length
  l2 : (istr (n : Int)).length ≤ 2
  val : PySem.intText? (istr (n : Int)) = some (n : Int)
  l3 : (istr (-(n : Int))).length ≤ 3
  neg : tl (istr (-(n : Int))) = (if n = 0 then tl (istr (n : Int)) else 45 :: tl (istr (n : Int)))
  hd : n = 0 ∨ (tl (istr (n : Int))).head? ≠ some 48
theorem dgs_of {n : Nat} (h : n < 13) : Dgs n := by
  have e := dgs_all n h
  unfold dgs at e
  simp only [Bool.and_eq_true, Bool.or_eq_true, decide_eq_true_eq, List.all_eq_true] at e
  obtain ⟨⟨⟨⟨⟨⟨h1, h2⟩, h3⟩, h4⟩, h5⟩, h6⟩, h7⟩ := e
  exact ⟨h1, h2, h3, h4, h5, h6, h7⟩
theorem istr_len {i : Int} (h : -12 ≤ i ∧ i ≤ 12) : (istr i).length ≤ 3 := by
  rcases Int.le_total 0 i with c | c
  · have := (dgs_of (n := i.toNat) (by omega)).l2
    rw [Int.toNat_of_nonneg c] at this
    omega
  · have := (dgs_of (n := (-i).toNat) (by omega)).l3
    rw [Int.toNat_of_nonneg (by omega), Int.neg_neg] at this
    exact this
/-- a number's text: its sign, then its figures -/
theorem istr_sign {i : Int} (h : -12 ≤ i ∧ i ≤ 12) : tl (istr i) = (if i < 0 then [45] else []) ++ tl (istr (iabs i)) := by
  by_cases c : i < 0
  · have d := dgs_of (n := (-i).toNat) (by omega)
    have e := d.neg
    rw [Int.toNat_of_nonneg (by omega), Int.neg_neg, if_neg (by omega)] at e
    rw [if_pos c, e, show iabs i = -i by unfold iabs; rw [if_pos c]]
    rfl
  · rw [if_neg c, iabs_pos (by omega)]
    rfl
theorem istr_figs {i : Int} (h : -12 ≤ i ∧ i ≤ 12) : ∀ c ∈ tl (istr i), c = 45 ∨ (48 ≤ c ∧ c ≤ 57) := fun c hc => by
  rw [istr_sign h] at hc
  have hn := iabs_nn i
  have h12 : iabs i ≤ 12 := by
    have := iabs_cases i
    unfold iabs
    split <;> omega
  have d := dgs_of (n := (iabs i).toNat) (by omega)
  rw [List.mem_append] at hc
  rcases hc with m | m
  · split at m
    · exact .inl (List.mem_singleton.mp m)
    · cases m
  · have := d.fig c (by rw [Int.toNat_of_nonneg hn]; exact m)
    exact .inr this
def Small (ns : List Int) : Prop := ∀ x ∈ ns, -12 ≤ x ∧ x ≤ 12
def ptext (ns : List Int) : Str := Txt.join " " (ns.map istr)
theorem tl_blank : tl (" " : Str) = [32] := by decide +kernel
theorem ptext_split {ns : List Int} (h : Small ns) (hne : ns ≠ []) : Txt.split (ptext ns) " " = ns.map istr := by
  refine split_join (s := 32) (S := []) tl_blank (by decide +kernel) (fun e => hne (List.map_eq_nil_iff.mp e)) fun p hp => ?_
  obtain ⟨x, hx, rfl⟩ := List.mem_map.mp hp
  intro hm
  have := istr_figs (h x hx) 32 hm
  omega
theorem joinL_drop : ∀ ws : List (List Nat), joinL [32] ws = (ws.flatMap fun w => 32 :: w).drop 1
  | [] => rfl
  | [p] => by
    show p = ((32 :: p) ++ []).drop 1
    rw [List.append_nil]
    rfl
  | p :: q :: r => by
    show p ++ ([32] ++ joinL [32] (q :: r)) = ((32 :: p) ++ List.flatMap (fun w => 32 :: w) (q :: r)).drop 1
    rw [joinL_drop (q :: r)]
    show p ++ ([32] ++ List.drop 1 ((32 :: q) ++ List.flatMap (fun w => 32 :: w) r)) = p ++ ((32 :: q) ++ List.flatMap (fun w => 32 :: w) r)
    rfl
theorem tl_ptext (ns : List Int) : tl (ptext ns) = (ns.flatMap fun x => 32 :: tl (istr x)).drop 1 := by
  unfold ptext
  rw [join_eq, tl_join, tl_blank, joinL_drop, List.map_map, List.flatMap_map] <;> rfl
theorem cutS_one (z : Str) : tl (cutS z (some 1) none) = (tl z).drop 1 := by
  unfold cutS
  show (List.take (HT.sIx z.length z.length none - HT.sIx z.length 0 (some 1)) (List.drop (HT.sIx z.length 0 (some 1)) z.cps.toList)) = _
  have e1 : HT.sIx z.length 0 (some (1 : Int)) = Nat.min 1 z.length := HT.sIx_nat _ _ 1
  rw [HT.sIx_none, e1]
  have hl : z.cps.toList.length = z.length := Array.length_toList
  by_cases h : 1 ≤ z.length
  · rw [show Nat.min 1 z.length = 1 from Nat.min_eq_left h, List.take_of_length_le (by rw [List.length_drop]; omega)] <;> rfl
  · have h0 : z.length = 0 := by omega
    have hz : z.cps.toList = [] := List.length_eq_zero_iff.mp (by omega)
    show List.take _ (List.drop _ z.cps.toList) = List.drop 1 z.cps.toList
    rw [hz]
    simp
theorem tl_inj {x y : Str} (h : tl x = tl y) : x = y := by
  have := map_tl_inj (l := [x]) (m := [y]) (by rw [List.map_singleton, List.map_singleton, h])
  exact (List.cons.inj this).1
theorem its (x : Str) {H1 : Hp} : ItIs (Its x) x.length (fun i => V.str ⟨#[(tl x).getD i 0]⟩) H1 where
  go := fun i H _ h => h
  stop := fun i H _ h => h
  yld := fun i H v H' _ h y => by
    obtain ⟨e, c, hc, rfl⟩ := y
    refine ⟨e, ?_⟩
    have e2 : (tl x)[i]? = some c := by
      show x.cps.toList[i]? = some c
      rw [Array.getElem?_toList]
      exact hc
    rw [List.getD_eq_getElem?_getD, e2]
    rfl
/-- a word that writes a cake -/
def OkW (w : Str) : Prop := 1 ≤ w.length ∧ w.length ≤ 2 ∧ (tl w).head? ≠ some 48 ∧ ∀ c ∈ tl w, 48 ≤ c ∧ c ≤ 57
def wval (w : Str) : Int := ((digitsVal (tl w) : Nat) : Int)
theorem wval_ok {w : Str} (h : OkW w) : PySem.intText? w = some (wval w) := by
  refine intText_digits h.2.2.2 (fun e => ?_) (by have := h.2.1; omega)
  have : w.length = 0 := by
    show w.cps.size = 0
    rw [← Array.length_toList]
    exact List.length_eq_zero_iff.mpr e
  have := h.1
  omega
theorem okW_istr {i : Int} (h1 : 1 ≤ i) (h2 : i ≤ 12) : OkW (istr i) ∧ wval (istr i) = i := by
  obtain ⟨n, rfl⟩ : ∃ n : Nat, i = (n : Int) := ⟨i.toNat, by omega⟩
  have d := dgs_of (n := n) (by omega)
  have ok : OkW (istr (n : Int)) := ⟨d.l1, d.l2, by
    rcases d.hd with h | h
    · omega
    · exact h, d.fig⟩
  refine ⟨ok, ?_⟩
  have := wval_ok ok
  rw [d.val] at this
  exact (Option.some.inj this).symm
def isNeg (w : Str) : Prop := (tl w).head? = some 45
instance (w : Str) : Decidable (isNeg w) := inferInstanceAs (Decidable ((tl w).head? = some 45))
def tailW (w : Str) : Str := cutS w (some 1) none
def OkB (w : Str) : Prop := if isNeg w then OkW (tailW w) else OkW w
def bval (w : Str) : Int := if isNeg w then -wval (tailW w) else wval w
theorem cutS_head (z : Str) : tl (cutS z none (some 1)) = (tl z).take 1 := by
  unfold cutS
  show (List.take (HT.sIx z.length z.length (some 1) - HT.sIx z.length 0 none) (List.drop (HT.sIx z.length 0 none) z.cps.toList)) = _
  have e1 : HT.sIx z.length z.length (some (1 : Int)) = Nat.min 1 z.length := HT.sIx_nat _ _ 1
  rw [HT.sIx_none, e1, List.drop_zero, Nat.sub_zero]
  have hl : z.cps.toList.length = z.length := Array.length_toList
  by_cases h : 1 ≤ z.length
  · rw [show Nat.min 1 z.length = 1 from Nat.min_eq_left h]
  · have h0 : z.length = 0 := by omega
    have hz : z.cps.toList = [] := List.length_eq_zero_iff.mp (by omega)
    show List.take _ z.cps.toList = List.take 1 z.cps.toList
    rw [hz]
    simp
theorem neg_head (w : Str) : cutS w none (some 1) = "-" ↔ isNeg w := by
  have td : tl ("-" : Str) = [45] := by decide +kernel
  constructor
  · intro e
    have := congrArg tl e
    rw [cutS_head, td] at this
    unfold isNeg
    cases h : tl w with
    | nil =>
      rw [h] at this
      cases this
    | cons x r =>
      rw [h] at this
      have e2 : x = 45 := (List.cons.inj this).1
      rw [e2]
      rfl
  · intro h
    refine tl_inj ?_
    rw [cutS_head, td]
    unfold isNeg at h
    cases e : tl w with
    | nil =>
      rw [e] at h
      cases h
    | cons x r =>
      rw [e] at h
      have e2 : x = 45 := Option.some.inj h
      rw [e2]
      rfl
theorem tailW_len (w : Str) : (tailW w).length ≤ w.length := by
  have h1 : (tl (tailW w)).length = (tailW w).length := Array.length_toList
  have h2 : (tl w).length = w.length := Array.length_toList
  have h3 := congrArg List.length (cutS_one w)
  rw [List.length_drop] at h3
  have h4 : (tl (tailW w)).length = (tl (cutS w (some 1) none)).length := rfl
  omega
theorem okB_istr {i : Int} (h : -12 ≤ i ∧ i ≤ 12) (h0 : i ≠ 0) : OkB (istr i) ∧ bval (istr i) = i := by
  have hs := istr_sign h
  have hn := iabs_nn i
  have ha := okW_istr (i := iabs i) (by have := iabs_cases i; omega) (by have := iabs_cases i; unfold iabs; split <;> omega)
  by_cases c : i < 0
  · rw [if_pos c] at hs
    have hneg : isNeg (istr i) := by
      unfold isNeg
      rw [hs]
      rfl
    have ht : tailW (istr i) = istr (iabs i) := tl_inj (by
      unfold tailW
      rw [cutS_one, hs]
      rfl)
    unfold OkB bval
    rw [if_pos hneg, if_pos hneg, ht]
    refine ⟨ha.1, ?_⟩
    rw [ha.2]
    have := iabs_cases i
    unfold iabs
    rw [if_pos c]
    omega
  · rw [if_neg c] at hs
    have e : iabs i = i := iabs_pos (by omega)
    rw [e] at ha
    have hneg : ¬ isNeg (istr i) := by
      intro hh
      unfold isNeg at hh
      have hf := ha.1.2.2.2
      cases e2 : tl (istr i) with
      | nil =>
        rw [e2] at hh
        cases hh
      | cons x r =>
        rw [e2] at hh hf
        have := hf x List.mem_cons_self
        have e3 : x = 45 := Option.some.inj hh
        omega
    unfold OkB bval
    rw [if_neg hneg, if_neg hneg]
    exact ha
theorem flat_len : ∀ ns : List Int, Small ns → (ns.flatMap fun x => 32 :: tl (istr x)).length ≤ 4 * ns.length
  | [], _ => Nat.le_refl _
  | x :: ns, h => by
    have h1 := istr_len (h x List.mem_cons_self)
    have h2 := flat_len ns fun y hy => h y (List.mem_cons_of_mem _ hy)
    have h3 : (tl (istr x)).length = (istr x).length := Array.length_toList
    rw [List.flatMap_cons, List.length_append, List.length_cons, List.length_cons]
    omega
theorem ptext_len {ns : List Int} (h : Small ns) : (ptext ns).length ≤ 4 * ns.length := by
  have h1 := flat_len ns h
  have h2 := congrArg List.length (tl_ptext ns)
  have h3 : (tl (ptext ns)).length = (ptext ns).length := Array.length_toList
  rw [List.length_drop] at h2
  omega
theorem pile_small {ns : List Int} (h : IsPile ns) : Small ns := fun x hx => by
  have := h.mem.mp hx
  have := h.2.1
  omega
theorem burnt_small {ns : List Int} (h : IsBurnt ns) : Small ns := fun x hx => burnt_mem h hx
theorem burnt_nz {ns : List Int} (h : IsBurnt ns) {x : Int} (hx : x ∈ ns) : x ≠ 0 := fun e => by
  have := (IsPile.mem h).mp (List.mem_map_of_mem (f := iabs) hx)
  rw [e] at this
  have : (1 : Int) ≤ iabs 0 := this.1
  exact absurd this (by decide)
end FL
namespace FL
open PySem PySem.Spec PyProof.Rows L2
/-! ## all piles of a height -/
def Val (b : Bool) (n : Nat) (p : List Int) : Prop := IsP b p ∧ p.length = n
theorem Val.flip {b : Bool} {n : Nat} {p : List Int} (h : Val b n p) (k : Nat) : Val b n (tflip b p k) := ⟨h.1.flip k, by rw [tflip_length, h.2]⟩
theorem nodup_le : ∀ {l m : List (List Int)}, l.Nodup → (∀ x ∈ l, x ∈ m) → l.length ≤ m.length
  | [], _, _, _ => Nat.zero_le _
  | x :: l, m, nd, h => by
    have h1 := List.nodup_cons.mp nd
    have hx := h x List.mem_cons_self
    have ih := nodup_le (m := m.erase x) h1.2 fun y hy => (List.mem_erase_of_ne (fun e => h1.1 (by rw [← e]; exact hy))).mpr (h y (List.mem_cons_of_mem _ hy))
    have hl := List.length_erase_of_mem hx
    have hp := List.length_pos_of_mem hx
    rw [List.length_cons]
    omega
def insAll (x : Int) : List Int → List (List Int)
  | [] => [[x]]
  | y :: ys => (x :: y :: ys) :: (insAll x ys).map (y :: ·)
theorem mem_insAll (x : Int) (r : List Int) : ∀ l : List Int, l ++ x :: r ∈ insAll x (l ++ r)
  | [] => by
    cases r with
    | nil => exact List.mem_singleton_self _
    | cons y ys => exact List.mem_cons_self
  | y :: l => List.mem_cons_of_mem _ (List.mem_map_of_mem (mem_insAll x r l))
def permsOf : List Int → List (List Int)
  | [] => [[]]
  | x :: xs => (permsOf xs).flatMap (insAll x)
theorem mem_permsOf : ∀ {xs p : List Int}, p.Perm xs → p ∈ permsOf xs
  | [], p, h => by
    rw [h.eq_nil]
    exact List.mem_singleton_self _
  | x :: xs, p, h => by
    have hx : x ∈ p := h.mem_iff.mpr List.mem_cons_self
    obtain ⟨l, r, rfl⟩ := List.append_of_mem hx
    have h2 : (l ++ r).Perm xs := List.Perm.cons_inv (List.perm_middle.symm.trans h)
    exact List.mem_flatMap.mpr ⟨l ++ r, mem_permsOf h2, mem_insAll x r l⟩
def signsOf : List Int → List (List Int)
  | [] => [[]]
  | x :: xs => (signsOf xs).flatMap fun ys => [x :: ys, (-x) :: ys]
theorem mem_signsOf : ∀ {xs p : List Int}, p.map iabs = xs → p ∈ signsOf xs
  | [], p, h => by
    rw [List.map_eq_nil_iff.mp h]
    exact List.mem_singleton_self _
  | x :: xs, [], h => by cases h
  | x :: xs, y :: ys, h => by
    obtain ⟨h1, h2⟩ := List.cons.inj h
    refine List.mem_flatMap.mpr ⟨ys, mem_signsOf h2, ?_⟩
    rcases iabs_cases y with e | e
    · rw [e, h1]
      exact List.mem_cons_self
    · rw [e, h1]
      exact List.mem_cons_of_mem _ List.mem_cons_self
def allP (b : Bool) (n : Nat) : List (List Int) := if b = true then (permsOf (upto n)).flatMap signsOf else permsOf (upto n)
theorem mem_allP {b : Bool} {n : Nat} {p : List Int} (h : Val b n p) : p ∈ allP b n := by
  obtain ⟨h1, h2⟩ := h
  unfold allP
  cases b with
  | false =>
    rw [if_neg Bool.false_ne_true]
    have := h1.2.2
    rw [h2] at this
    exact mem_permsOf this
  | true =>
    rw [if_pos rfl]
    have h3 : IsPile (p.map iabs) := h1
    have := h3.2.2
    rw [List.length_map, h2] at this
    exact List.mem_flatMap.mpr ⟨p.map iabs, mem_permsOf this, mem_signsOf rfl⟩
theorem allP_len (b : Bool) {n : Nat} (h : n ≤ if b = true then 4 else 6) : (allP b n).length ≤ 720 := by
  cases b with
  | false =>
    have h : n ≤ 6 := h
    have : ∀ m : Nat, m < 7 → (allP false m).length ≤ 720 := by decide +kernel
    exact this n (by omega)
  | true =>
    have h : n ≤ 4 := h
    have : ∀ m : Nat, m < 5 → (allP true m).length ≤ 720 := by decide +kernel
    exact this n (by omega)
/-! ## the walk from the pile in order over all of them -/
theorem upto_isPv (b : Bool) {n : Nat} (h : 1 ≤ n) (h2 : n ≤ 12) : Val b n (upto n) := by
  have hp : IsPile (upto n) := ⟨by rw [upto_length]; exact h, by rw [upto_length]; exact h2, by rw [upto_length]⟩
  refine ⟨?_, upto_length n⟩
  cases b with
  | false => exact hp
  | true =>
    show IsPile ((upto n).map iabs)
    rw [hp.abs]
    exact hp
/-- the first i of the row done; of the i-th, t turns -/
structure Bfs (b : Bool) (n : Nat) (row : List (List Int)) (i t : Nat) : Prop where
  nd : row.Nodup
  val : ∀ p ∈ row, Val b n p
  h0 : upto n ∈ row
  mono : ∀ j k, j ≤ k → k < row.length → dist b (row.getD j []) ≤ dist b (row.getD k [])
  nbr : ∀ j, j < i → j < row.length → ∀ u, 1 ≤ u → u ≤ n → tflip b (row.getD j []) u ∈ row
  nbr1 : i < row.length → ∀ u, 1 ≤ u → u ≤ t → tflip b (row.getD i []) u ∈ row
  low : i < row.length → ∀ p ∈ row, dist b p ≤ dist b (row.getD i []) + 1
theorem getDl_mem {row : List (List Int)} {j : Nat} (h : j < row.length) : row.getD j [] ∈ row := by
  rw [List.getD_eq_getElem?_getD, List.getElem?_eq_getElem h]
  exact List.getElem_mem h
theorem mem_getDl {row : List (List Int)} {p : List Int} (h : p ∈ row) : ∃ j, j < row.length ∧ row.getD j [] = p := by
  obtain ⟨j, hj, e⟩ := List.getElem_of_mem h
  refine ⟨j, hj, ?_⟩
  rw [List.getD_eq_getElem?_getD, List.getElem?_eq_getElem hj]
  exact e
theorem getDl_app {row : List (List Int)} {q : List Int} {j : Nat} (h : j < row.length) : (row ++ [q]).getD j [] = row.getD j [] := by
  rw [List.getD_eq_getElem?_getD, List.getD_eq_getElem?_getD, List.getElem?_append_left h]
theorem getDl_last {row : List (List Int)} {q : List Int} : (row ++ [q]).getD row.length [] = q := by
  rw [List.getD_eq_getElem?_getD, List.getElem?_append_right (Nat.le_refl _), Nat.sub_self]
  rfl
theorem Bfs.start (b : Bool) {n : Nat} (h : 1 ≤ n) (h2 : n ≤ 12) : Bfs b n [upto n] 0 0 where
  nd := by simp
  val := fun p hp => by
    rw [List.mem_singleton.mp hp]
    exact upto_isPv b h h2
  h0 := List.mem_singleton_self _
  mono := fun j k h1 h2 => by
    have : k < 1 := h2
    have e1 : k = 0 := by omega
    have e2 : j = 0 := by omega
    rw [e1, e2]
    exact Nat.le_refl _
  nbr := fun j h => absurd h (Nat.not_lt_zero _)
  nbr1 := fun _ u h1 h2 => by omega
  low := fun _ p hp => by
    rw [List.mem_singleton.mp hp]
    exact Nat.le_succ _
/-- all that is as near as the i-th stands in the row -/
theorem Bfs.level {b : Bool} {n : Nat} {row : List (List Int)} {i t : Nat} (h : Bfs b n row i t) : ∀ (m : Nat) {q : List Int}, Val b n q → dist b q = m → (∀ r, r ∈ row → dist b r < m → ∃ j, j < i ∧ j < row.length ∧ row.getD j [] = r) → q ∈ row ∨ ∃ r, Val b n r ∧ dist b r < m ∧ r ∉ row
  | 0, q, hq, hd, _ => by
    have := (dist_zero hq.1).mp hd
    rw [hq.2] at this
    rw [this]
    exact .inl h.h0
  | m + 1, q, hq, hd, hr => by
    obtain ⟨u, h1, h2, h3⟩ := dist_step hq.1 hd
    by_cases hm : tflip b q u ∈ row
    · obtain ⟨j, hj, hj2, ej⟩ := hr _ hm (by omega)
      have := h.nbr j hj hj2 u h1 (by rw [← hq.2]; exact h2)
      rw [ej, tflip_tflip b h2] at this
      exact .inl this
    · exact .inr ⟨_, hq.flip u, by omega, hm⟩
theorem Bfs.near {b : Bool} {n : Nat} {row : List (List Int)} {i t : Nat} (h : Bfs b n row i t) (hi : i < row.length) : ∀ (m : Nat), m ≤ dist b (row.getD i []) → ∀ {q : List Int}, Val b n q → dist b q = m → q ∈ row := by
  intro m
  induction m using Nat.strongRecOn with
  | _ m ih =>
    intro hm q hq hd
    rcases h.level m hq hd (fun r hr hlt => by
      obtain ⟨j, hj, e⟩ := mem_getDl hr
      refine ⟨j, Nat.lt_of_not_le fun hle => ?_, hj, e⟩
      have := h.mono i j hle hj
      rw [e] at this
      omega) with h1 | ⟨r, hr, hlt, hn⟩
    · exact h1
    · exact absurd (ih _ hlt (by omega) hr rfl) hn
theorem Bfs.done {b : Bool} {n : Nat} {row : List (List Int)} {i t : Nat} (h : Bfs b n row i t) (hi : row.length ≤ i) : ∀ (m : Nat) {q : List Int}, Val b n q → dist b q = m → q ∈ row := by
  intro m
  induction m using Nat.strongRecOn with
  | _ m ih =>
    intro q hq hd
    rcases h.level m hq hd (fun r hr hlt => by
      obtain ⟨j, hj, e⟩ := mem_getDl hr
      exact ⟨j, by omega, hj, e⟩) with h1 | ⟨r, hr, hlt, hn⟩
    · exact h1
    · exact absurd (ih _ hlt hr rfl) hn
theorem Bfs.old {b : Bool} {n : Nat} {row : List (List Int)} {i t : Nat} (h : Bfs b n row i t) (hi : i < row.length) (hm : tflip b (row.getD i []) (t + 1) ∈ row) : Bfs b n row i (t + 1) where
  nd := h.nd
  val := h.val
  h0 := h.h0
  mono := h.mono
  nbr := h.nbr
  nbr1 := fun hi u h1 h2 => by
    by_cases e : u = t + 1
    · rw [e]
      exact hm
    · exact h.nbr1 hi u h1 (by omega)
  low := h.low
theorem Bfs.dist_new {b : Bool} {n : Nat} {row : List (List Int)} {i t : Nat} (h : Bfs b n row i t) (hi : i < row.length) (ht : t + 1 ≤ n) (hm : tflip b (row.getD i []) (t + 1) ∉ row) : dist b (tflip b (row.getD i []) (t + 1)) = dist b (row.getD i []) + 1 := by
  have hv := h.val _ (getDl_mem hi)
  have h1 := dist_up hv.1 (t := t + 1) (by omega) (by rw [hv.2]; exact ht)
  have h2 : ¬ dist b (tflip b (row.getD i []) (t + 1)) ≤ dist b (row.getD i []) := fun hle => hm (h.near hi _ hle (hv.flip _) rfl)
  omega
theorem Bfs.new {b : Bool} {n : Nat} {row : List (List Int)} {i t : Nat} (h : Bfs b n row i t) (hi : i < row.length) (ht : t + 1 ≤ n) (hm : tflip b (row.getD i []) (t + 1) ∉ row) : Bfs b n (row ++ [tflip b (row.getD i []) (t + 1)]) i (t + 1) where
  nd := by
    rw [List.nodup_append]
    refine ⟨h.nd, by simp, fun x hx y hy e => ?_⟩
    rw [List.mem_singleton.mp hy] at e
    exact hm (by rw [← e]; exact hx)
  val := fun p hp => by
    rcases List.mem_append.mp hp with q | q
    · exact h.val p q
    · rw [List.mem_singleton.mp q]
      exact (h.val _ (getDl_mem hi)).flip _
  h0 := List.mem_append_left _ h.h0
  mono := fun j k hjk hk => by
    rw [List.length_append] at hk
    have hk : k < row.length + 1 := hk
    by_cases e : k = row.length
    · rw [e, getDl_last, h.dist_new hi ht hm]
      by_cases e2 : j = row.length
      · rw [e2, getDl_last, h.dist_new hi ht hm]
        exact Nat.le_refl _
      · have hj : j < row.length := by omega
        rw [getDl_app hj]
        exact h.low hi _ (getDl_mem hj)
    · rw [getDl_app (show k < row.length by omega), getDl_app (show j < row.length by omega)]
      exact h.mono j k hjk (by omega)
  nbr := fun j hj _ u h1 h2 => by
    have hj2 : j < row.length := by omega
    rw [getDl_app hj2]
    exact List.mem_append_left _ (h.nbr j hj hj2 u h1 h2)
  nbr1 := fun _ u h1 h2 => by
    rw [getDl_app hi]
    by_cases e : u = t + 1
    · rw [e]
      exact List.mem_append_right _ (List.mem_singleton_self _)
    · exact List.mem_append_left _ (h.nbr1 hi u h1 (by omega))
  low := fun _ p hp => by
    rw [getDl_app hi]
    rcases List.mem_append.mp hp with q | q
    · exact h.low hi p q
    · rw [List.mem_singleton.mp q, h.dist_new hi ht hm]
      exact Nat.le_refl _
theorem Bfs.next {b : Bool} {n : Nat} {row : List (List Int)} {i : Nat} (h : Bfs b n row i n) (hi : i < row.length) : Bfs b n row (i + 1) 0 where
  nd := h.nd
  val := h.val
  h0 := h.h0
  mono := h.mono
  nbr := fun j hj hjl u h1 h2 => by
    by_cases e : j = i
    · rw [e]
      exact h.nbr1 hi u h1 h2
    · exact h.nbr j (by omega) hjl u h1 h2
  nbr1 := fun _ u h1 h2 => by omega
  low := fun hi2 p hp => by
    have h1 := h.low hi p hp
    have h2 := h.mono i (i + 1) (Nat.le_succ _) hi2
    omega
theorem Bfs.size {b : Bool} {n : Nat} {row : List (List Int)} {i t : Nat} (h : Bfs b n row i t) : row.length ≤ (allP b n).length := nodup_le h.nd fun p hp => mem_allP (h.val p hp)
end FL
namespace FL
open PySem PySem.Spec PyProof.Rows L2
/-! ## {t: v}, t a tuple -/
def tDisp1T (tk tv : TE) : TE := fun σ H Q => ∀ p, H p = none → tk σ (upd H p (.dT [])) fun x H1 => tv σ H1 fun y H2 => H2 p = some (.dT []) ∧ ∃ (ks : List Key) (b : Addr), x = .ref b ∧ H2 b = some (.tup (ks.map kV)) ∧ Q (.ref p) (upd H2 p (.dT [(ks, y)]))
theorem pe_disp1T {X : Cx} {k v : Expr} {tk tv : TE} {pos : Pos} (hu : X.A.units + 1 < cLine) (hk : PE X k tk) (hv : PE X v tv) : PE X (.Dict [some k] [v] pos) (tDisp1T tk tv) := by
  refine ⟨fun pins s σ H Q I h => ?_⟩
  have hn := I.hok.fresh (Nat.le_refl s.heap.objs.size)
  have I1 := I.laid (a := s.heap.objs.size) (o := .dT []) (h' := s.heap.push { cls := .type "dict", data := .dict #[] }) (t' := s.toks) (fun _ _ q => Heap.get?_push_of_some _ q) (Nat.le_refl _) (dt_empty s.heap I.big)
  rw [arm_eval_Dict, zip_pairTrees [some k] [v] X.env pos rfl rfl, dictDisplay_pairs (pairTrees [some k] [v] X.env pos) (fun e => nomatch e) (by show 1 < 17; decide)]
  refine wpAny_bind (wpAny_standAt (wpAny_bind ?_))
  unfold subDict
  refine wpAny_bind (wpAny_alloc (wpAny_bind (wpAny_holding ?_)))
  rw [if_pos (show (pairTrees [some k] [v] X.env pos).length ≤ 15 from (by show 1 ≤ 15; decide))]
  refine wpAny_bind (pairTrees_cons_walk (thn (hk.run pins _ σ _ _ I1 (h _ hn)) fun u s1 ⟨x, H1, J1, r1, q1⟩ => thn (hv.run pins s1 σ H1 _ J1 q1) fun u2 s2 ⟨y, H2, J2, r2, e2, ks, b, ex, eb, q2⟩ => pairTrees_nil_walk ?_))
  subst ex
  obtain rfl : u = Value.ref b := r1
  obtain ⟨z, hd, xs, rel, dd⟩ := dt_of J2.hok e2
  have hz : xs.length ≤ sizeLine := by
    rw [← Paired.length rel]
    exact z
  refine wpAny_holding ?_
  rw [List.forIn_cons]
  refine wpAny_bind (wpAny_bind (wpAny_bind (wpAny_dictSet_heap (hsz := hz) (show X.A.units < cLine by omega) (key_of J2.hok eb) dd fun h' dd' hs => wpAny_pure ?_)))
  dsimp only
  rw [List.forIn_nil]
  refine wpAny_pure (wpAny_pure (wpAny_pure (wpAny_pure ⟨.ref s.heap.objs.size, _, ?_, rfl, q2⟩)))
  obtain ⟨q, es, ep, hq, h2, h3, h4, _, h5⟩ := dd'
  refine d_write J2 (by rw [e2]; exact True.intro) hs ⟨q, hq⟩ ⟨?_, hd, _, (rel.put ks eb r2).keeps fun c ys ec => ?_, q, es, ep, hq, h2, h3, h4, h5⟩
  · show 1 ≤ sizeLine
    decide
  · rw [upd_ne (ne_of ec e2 (fun z => nomatch z))]
    exact ec
/-! ## the dict of the walk: each pile of the row with its turns -/
def tk (p : List Int) : List Key := p.map Sum.inl
theorem tk_kV (p : List Int) : (tk p).map kV = p.map V.int := by
  unfold tk
  rw [List.map_map] <;> rfl
theorem tk_inj {p q : List Int} (h : tk p = tk q) : p = q := by
  have := congrArg (List.map (fun k : Key => match k with | .inl i => i | .inr _ => (0 : Int))) h
  unfold tk at this
  rw [List.map_map, List.map_map] at this
  have e : ∀ l : List Int, l.map ((fun k : Key => match k with | .inl i => i | .inr _ => (0 : Int)) ∘ Sum.inl) = l := fun l => List.map_id' l
  rw [e, e] at this
  exact this
def dkv (f : List Int → V) (row : List (List Int)) : List (List Key × V) := row.map fun p => (tk p, f p)
theorem dkv_len (f : List Int → V) (row : List (List Int)) : (dkv f row).length = row.length := List.length_map _
theorem dkv_in {f : List Int → V} {p : List Int} : ∀ {row : List (List Int)}, p ∈ row → valV (dkv f row) (tk p) = some (f p)
  | q :: row, h => by
    by_cases e : q = p
    · subst e
      exact valV_pos rfl
    · have hm : p ∈ row := by
        rcases List.mem_cons.mp h with c | c
        · exact absurd c.symm e
        · exact c
      have ih := dkv_in (f := f) hm
      unfold valV at *
      show ((dkv f (q :: row)).find? _).map _ = _
      unfold dkv at *
      rw [List.map_cons, List.find?_cons]
      have hn : decide (tk q = tk p) = false := decide_eq_false fun x => e (tk_inj x)
      simp only [hn]
      exact ih
theorem dkv_out {f : List Int → V} {p : List Int} : ∀ {row : List (List Int)}, p ∉ row → valV (dkv f row) (tk p) = none
  | [], _ => rfl
  | q :: row, h => by
    have e : q ≠ p := fun x => h (by rw [x]; exact List.mem_cons_self)
    have ih := dkv_out (f := f) (fun x => h (List.mem_cons_of_mem q x))
    unfold valV at *
    show ((dkv f (q :: row)).find? _).map _ = _
    unfold dkv at *
    rw [List.map_cons, List.find?_cons]
    have hn : decide (tk q = tk p) = false := decide_eq_false fun x => e (tk_inj x)
    simp only [hn]
    exact ih
theorem dkv_put {f : List Int → V} {p : List Int} {row : List (List Int)} (h : p ∉ row) : putK (dkv f row) (tk p) (f p) = dkv f (row ++ [p]) := by
  unfold putK
  have : ((dkv f row).any fun kv => decide (kv.1 = tk p)) = false := by
    rw [List.any_eq_false]
    intro kv hkv
    unfold dkv at hkv
    obtain ⟨q, hq, rfl⟩ := List.mem_map.mp hkv
    simp only [decide_eq_true_eq]
    intro e
    exact h (by rw [← tk_inj e]; exact hq)
  rw [this, if_neg Bool.false_ne_true]
  unfold dkv
  rw [List.map_append] <;> rfl
/-- the tuples of a row -/
def Rows (H : Hp) (as : List Addr) (row : List (List Int)) : Prop := as.length = row.length ∧ ∀ j a, as[j]? = some a → H a = some (.tup ((row.getD j []).map V.int))
theorem Rows.at {H : Hp} {as : List Addr} {row : List (List Int)} (h : Rows H as row) {j : Nat} (hj : j < row.length) : ∃ a, as[j]? = some a ∧ H a = some (.tup ((row.getD j []).map V.int)) := by
  have hj2 : j < as.length := by rw [h.1]; exact hj
  exact ⟨as[j], List.getElem?_eq_getElem hj2, h.2 j _ (List.getElem?_eq_getElem hj2)⟩
theorem Rows.keep {H H' : Hp} {as : List Addr} {row : List (List Int)} (h : Rows H as row) (k : ∀ a xs, H a = some (.tup xs) → H' a = some (.tup xs)) : Rows H' as row := ⟨h.1, fun j a e => k _ _ (h.2 j a e)⟩
theorem Rows.snoc {H : Hp} {as : List Addr} {row : List (List Int)} {a : Addr} {p : List Int} (h : Rows H as row) (e : H a = some (.tup (p.map V.int))) : Rows H (as ++ [a]) (row ++ [p]) := by
  refine ⟨by rw [List.length_append, List.length_append, h.1] <;> rfl, fun j c hc => ?_⟩
  by_cases hj : j < as.length
  · rw [List.getElem?_append_left hj] at hc
    rw [getDl_app (by rw [← h.1]; exact hj)]
    exact h.2 j c hc
  · rw [List.getElem?_append_right (by omega)] at hc
    have hj2 : j = as.length := by
      have := (List.getElem?_eq_some_iff.mp hc).1
      have : j - as.length < 1 := this
      omega
    subst hj2
    rw [Nat.sub_self] at hc
    obtain rfl : a = c := Option.some.inj hc
    rw [h.1, getDl_last]
    exact e
theorem dget_of {H : Hp} {D o : Addr} {f : List Int → V} {row : List (List Int)} {q : List Int} (eD : Rd H D (.dT (dkv f row))) (h : q ∈ row) (e : H o = some (.tup (q.map V.int))) : DGet H D (.ref o) (some (f q)) :=
  .inr ⟨_, tk q, o, eD, rfl, by rw [tk_kV]; exact e, (dkv_in h).symm⟩
theorem dget_no {H : Hp} {D o : Addr} {f : List Int → V} {row : List (List Int)} {q : List Int} (eD : Rd H D (.dT (dkv f row))) (h : q ∉ row) (e : H o = some (.tup (q.map V.int))) : DGet H D (.ref o) none :=
  .inr ⟨_, tk q, o, eD, rfl, by rw [tk_kV]; exact e, (dkv_out h).symm⟩
theorem dkv_at {f : List Int → V} {row : List (List Int)} {i : Nat} {ks : List Key} {v : V} (h : (dkv f row)[i]? = some (ks, v)) : i < row.length ∧ ks = tk (row.getD i []) ∧ v = f (row.getD i []) := by
  have hi : i < row.length := by
    have := (List.getElem?_eq_some_iff.mp h).1
    rw [dkv_len] at this
    exact this
  unfold dkv at h
  rw [List.getElem?_map, List.getElem?_eq_getElem hi, Option.map_some] at h
  have e := Option.some.inj h
  rw [List.getD_eq_getElem?_getD, List.getElem?_eq_getElem hi]
  exact ⟨hi, (congrArg Prod.fst e).symm, (congrArg Prod.snd e).symm⟩
/-! ## for k in d, d's keys tuples; a comprehension over it -/
theorem for_keysT {d : Addr} {o : Obj} {kvs : List (List Key × V)} {g : TG} {tb : TS} {De : Ends} {σ : L2.St} {H : Hp} (Pv : Nat → L2.St → Hp → Prop) (h0 : Pv 0 σ H) (hG : ∀ i σ H, i ≤ kvs.length → Pv i σ H → H d = some (.frz o (.dT kvs)))
    (hs : ∀ i ks v q σ H, kvs[i]? = some (ks, v) → H q = some (.tup (ks.map kV)) → Pv i σ H → g (.ref q) σ H fun σ2 H2 => tb { De with nx := Pv (i + 1), ct := Pv (i + 1), bk := De.nx } σ2 H2) (hd : ∀ σ H, Pv kvs.length σ H → De.nx σ H) :
    ∃ W : Nat → Nat → L2.St → Hp → Prop, (∃ m, W 0 m σ H) ∧ ∀ i m σ H, W i m σ H →
      ((Itkt d o kvs).stop i H ∧ De.nx σ H) ∨ ((Itkt d o kvs).go i H ∧ ∃ N : L2.St → Hp → Prop, (∀ σ' H', N σ' H' → ∃ m', m' < m ∧ W (i + 1) m' σ' H') ∧ ∀ x H', (Itkt d o kvs).yld i H x H' → g x σ H' fun σ2 H2 => tb { De with nx := N, ct := N, bk := De.nx } σ2 H2) := by
  refine ⟨fun i m σ H => m = kvs.length - i ∧ i ≤ kvs.length ∧ Pv i σ H, ⟨kvs.length, rfl, Nat.zero_le _, h0⟩, ?_⟩
  rintro i m σ H ⟨rfl, hi, p⟩
  have q := hG i σ H hi p
  by_cases hlt : i < kvs.length
  · refine .inr ⟨⟨q, hlt⟩, Pv (i + 1), fun σ' H' p' => ⟨kvs.length - (i + 1), by omega, rfl, hlt, p'⟩, fun x H' y => ?_⟩
    obtain ⟨e, ks, v, q2, e2, e3, e4⟩ := y
    subst e e3
    exact hs i ks v q2 σ _ e2 e4 p
  · have e : i = kvs.length := by omega
    subst e
    exact .inl ⟨⟨q, Nat.le_refl _⟩, hd σ H p⟩
theorem lc_keysT {d : Addr} {o : Obj} {kvs : List (List Key × V)} {Hs : Hp} {k : Nat} {te : TE} {σ : L2.St} {D : Addr} {Qd : Hp → Prop} (h0 : Hs d = some (.frz o (.dT kvs))) (hD : Hs D = none) (hn : kvs.length ≤ 100000) (r : Nat → V)
    (he : ∀ (j : Nat) (ks : List Key) (v : V) (q : Addr) (H : Hp) (Q : VK), kvs[j]? = some (ks, v) → H q = some (.tup (ks.map kV)) → Same Hs H → (∀ H', Same H H' → Q (r j) H') → te (σ.set k (some (.ref q))) H Q)
    (hd : ∀ H', Same Hs H' → H' D = some (.lst ((List.range kvs.length).map r)) → Qd H') :
    ∃ W : Nat → Nat → Hp → Prop, (∃ m, W 0 m (upd Hs D (.lst []))) ∧ ∀ i m H, W i m H →
      ((Itkt d o kvs).stop i H ∧ Qd H) ∨ ((Itkt d o kvs).go i H ∧ ∃ Nx : Hp → Prop, (∀ H', Nx H' → ∃ m', m' < m ∧ W (i + 1) m' H') ∧ ∀ x H', (Itkt d o kvs).yld i H x H' → gName k x (wipe σ [k]) H' fun σ2 H2 => wipe σ2 [k] = wipe σ [k] ∧ tYes σ2 H2 fun b H3 =>
        if b = true then te σ2 H3 fun y H4 => ∃ acc, H4 D = some (.lst acc) ∧ acc.length < sizeLine ∧ Nx (upd H4 D (.lst (acc ++ [y]))) else Nx H3) := by
  have ew : ∀ v : Option V, (wipe σ [k]).set k v = σ.set k v := fun v => by
    show (σ.set k none).set k v = σ.set k v
    rw [List.set_set]
  refine ⟨fun i m H => m = kvs.length - i ∧ i ≤ kvs.length ∧ Same Hs H ∧ H D = some (.lst ((List.range i).map r)), ⟨kvs.length, rfl, Nat.zero_le _, same_new (Same.refl _) hD, upd_same⟩, ?_⟩
  rintro i m H ⟨rfl, hi, sH, hL⟩
  by_cases hlt : i < kvs.length
  · refine .inr ⟨⟨sH _ _ h0, hlt⟩, fun H' => Same Hs H' ∧ H' D = some (.lst ((List.range (i + 1)).map r)), fun H' p' => ⟨kvs.length - (i + 1), by omega, rfl, hlt, p'⟩, fun v H' yy => ?_⟩
    obtain ⟨e, ks, w, q2, e2, e3, e4⟩ := yy
    subst e e3
    unfold gName
    rw [ew]
    refine ⟨by show (σ.set k (some (.ref q2))).set k none = σ.set k none; rw [List.set_set], ?_⟩
    unfold tYes
    dsimp only
    rw [if_pos rfl]
    refine he i ks w q2 H' _ e2 e4 sH fun H3 s3 => ?_
    refine ⟨_, s3 _ _ hL, len_small' (by rw [List.length_map, List.length_range]; omega), same_mut (sH.trans s3) hD, ?_⟩
    rw [upd_same, List.range_succ, List.map_append] <;> rfl
  · have e : i = kvs.length := by omega
    subst e
    exact .inl ⟨⟨sH _ _ h0, Nat.le_refl _⟩, hd H sH hL⟩
end FL
namespace FL
open PySem PySem.Spec PyProof.Rows L2
/-! ## how many piles need so many turns -/
theorem dist_100 {b : Bool} {p : List Int} (hp : IsP b p) : dist b p ≤ 100 := by
  have hl := hp.len
  cases b with
  | true =>
    have h1 := (bplan_sorts (p := p) hp).2
    have h2 := dist_le (bplan_sorts (p := p) hp).1
    omega
  | false =>
    have h1 := (plan_sorts (p := p) hp).2
    have h2 := dist_le (plan_sorts (p := p) hp).1
    omega
def IsAll (b : Bool) (n : Nat) (row : List (List Int)) : Prop := row.Nodup ∧ ∀ p, p ∈ row ↔ Val b n p
theorem all_ex (b : Bool) (n : Nat) : ∃ row, IsAll b n row := by
  have : ∀ l : List (List Int), ∃ row : List (List Int), row.Nodup ∧ (∀ p ∈ row, Val b n p) ∧ ∀ p ∈ l, Val b n p → p ∈ row := by
    intro l
    induction l with
    | nil => exact ⟨[], by simp, fun p h => absurd h (by simp), fun p h => absurd h (by simp)⟩
    | cons x l ih =>
      obtain ⟨row, h1, h2, h3⟩ := ih
      by_cases hx : Val b n x ∧ x ∉ row
      · refine ⟨x :: row, List.nodup_cons.mpr ⟨hx.2, h1⟩, fun p h => ?_, fun p h hv => ?_⟩
        · rcases List.mem_cons.mp h with e | e
          · rw [e]
            exact hx.1
          · exact h2 p e
        · rcases List.mem_cons.mp h with e | e
          · rw [e]
            exact List.mem_cons_self
          · exact List.mem_cons_of_mem _ (h3 p e hv)
      · refine ⟨row, h1, h2, fun p h hv => ?_⟩
        rcases List.mem_cons.mp h with e | e
        · subst e
          exact Classical.byContradiction fun hn => hx ⟨hv, hn⟩
        · exact h3 p e hv
  obtain ⟨row, h1, h2, h3⟩ := this (allP b n)
  exact ⟨row, h1, fun p => ⟨h2 p, fun h => h3 p (mem_allP h) h⟩⟩
noncomputable def cnt (b : Bool) (n k : Nat) : Nat := ((Classical.choose (all_ex b n)).filter fun p => decide (dist b p = k)).length
theorem cnt_of {b : Bool} {n k : Nat} {row : List (List Int)} (h : row.Nodup) (hm : ∀ p, p ∈ row ↔ Val b n p ∧ dist b p = k) : row.length = cnt b n k := by
  obtain ⟨c1, c2⟩ := Classical.choose_spec (all_ex b n)
  unfold cnt
  refine Nat.le_antisymm (nodup_le h fun x hx => ?_) (nodup_le (c1.filter _) fun x hx => ?_)
  · obtain ⟨v, d⟩ := (hm x).mp hx
    exact List.mem_filter.mpr ⟨(c2 x).mpr v, decide_eq_true d⟩
  · obtain ⟨m, d⟩ := List.mem_filter.mp hx
    exact (hm x).mpr ⟨(c2 x).mp m, of_decide_eq_true d⟩
theorem cnt_all {b : Bool} {n k : Nat} {row : List (List Int)} (h : IsAll b n row) : (row.filter fun p => decide (dist b p = k)).length = cnt b n k :=
  cnt_of (h.1.filter _) fun p => by
    rw [List.mem_filter, h.2 p]
    exact ⟨fun x => ⟨x.1, of_decide_eq_true x.2⟩, fun x => ⟨x.1, decide_eq_true x.2⟩⟩
theorem cnt_pos {b : Bool} {n k : Nat} : 0 < cnt b n k ↔ ∃ p, Val b n p ∧ dist b p = k := by
  obtain ⟨row, h⟩ := all_ex b n
  rw [← cnt_all h, List.length_pos_iff_exists_mem]
  constructor
  · rintro ⟨p, hp⟩
    obtain ⟨m, d⟩ := List.mem_filter.mp hp
    exact ⟨p, (h.2 p).mp m, of_decide_eq_true d⟩
  · rintro ⟨p, v, d⟩
    exact ⟨p, List.mem_filter.mpr ⟨(h.2 p).mpr v, decide_eq_true d⟩⟩
theorem cnt_le {b : Bool} {n : Nat} (h : n ≤ if b = true then 4 else 6) (k : Nat) : cnt b n k ≤ 720 := by
  obtain ⟨row, hr⟩ := all_ex b n
  rw [← cnt_all hr]
  refine Nat.le_trans (nodup_le (hr.1.filter _) fun x hx => ?_) (allP_len b h)
  exact mem_allP ((hr.2 x).mp (List.mem_filter.mp hx).1)
theorem dist_less {b : Bool} {n : Nat} : ∀ (d : Nat) {p : List Int} {j : Nat}, Val b n p → dist b p = j + d → ∃ q, Val b n q ∧ dist b q = j
  | 0, p, j, hv, e => ⟨p, hv, e⟩
  | d + 1, p, j, hv, e => by
    obtain ⟨t, h1, h2, h3⟩ := dist_step hv.1 (m := j + d) (by omega)
    exact dist_less d (hv.flip t) h3
noncomputable def cntL (b : Bool) (n k : Nat) : List Int := (List.range k).map fun j => ((cnt b n j : Nat) : Int)
theorem cntL_length (b : Bool) (n k : Nat) : (cntL b n k).length = k := by
  unfold cntL
  rw [List.length_map, List.length_range]
theorem cntL_snoc (b : Bool) (n k : Nat) : cntL b n (k + 1) = cntL b n k ++ [((cnt b n k : Nat) : Int)] := by
  unfold cntL
  rw [List.range_succ, List.map_append] <;> rfl
/-- k levels and no more -/
def Levs (b : Bool) (n k : Nat) : Prop := (∀ j, j < k → 0 < cnt b n j) ∧ cnt b n k = 0
theorem Levs.eq {b : Bool} {n k m : Nat} (h : Levs b n k) (h' : Levs b n m) : k = m := by
  rcases Nat.lt_trichotomy k m with c | c | c
  · have := h'.1 k c
    have := h.2
    omega
  · exact c
  · have := h.1 m c
    have := h'.2
    omega
theorem Levs.of_max {b : Bool} {n m : Nat} {row : List (List Int)} (h : IsAll b n row) {p : List Int} (hp : p ∈ row) (e : dist b p = m) (hm : ∀ q ∈ row, dist b q ≤ m) : Levs b n (m + 1) := by
  refine ⟨fun j hj => cnt_pos.mpr ?_, ?_⟩
  · exact dist_less (m - j) ((h.2 p).mp hp) (by omega)
  · refine Nat.eq_zero_of_not_pos fun x => ?_
    obtain ⟨q, hq, d⟩ := cnt_pos.mp x
    have := hm q ((h.2 q).mpr hq)
    omega
/-- level k: the first i of here done; of the i-th, t turns -/
structure Lev (b : Bool) (n : Nat) (met here ahead : List (List Int)) (k i t : Nat) : Prop where
  nd : met.Nodup
  hh : ∀ p, p ∈ here ↔ Val b n p ∧ dist b p = k
  ndh : here.Nodup
  nda : ahead.Nodup
  va : ∀ p ∈ ahead, Val b n p ∧ dist b p = k + 1
  me : ∀ p, p ∈ met ↔ (Val b n p ∧ dist b p ≤ k) ∨ p ∈ ahead
  nbr : ∀ j, j < i → j < here.length → ∀ u, 1 ≤ u → u ≤ n → tflip b (here.getD j []) u ∈ met
  nbr1 : i < here.length → ∀ u, 1 ≤ u → u ≤ t → tflip b (here.getD i []) u ∈ met
theorem Lev.start (b : Bool) {n : Nat} (h : 1 ≤ n) (h2 : n ≤ 12) : Lev b n [upto n] [upto n] [] 0 0 0 where
  nd := by simp
  hh := fun p => by
    rw [List.mem_singleton]
    constructor
    · rintro rfl
      have hv := upto_isPv b h h2
      exact ⟨hv, (dist_zero hv.1).mpr (by rw [hv.2])⟩
    · rintro ⟨hv, d⟩
      have := (dist_zero hv.1).mp d
      rw [hv.2] at this
      exact this
  ndh := by simp
  nda := by simp
  va := fun p h => absurd h (by simp)
  me := fun p => by
    rw [List.mem_singleton]
    constructor
    · rintro rfl
      have hv := upto_isPv b h h2
      exact .inl ⟨hv, Nat.le_of_eq ((dist_zero hv.1).mpr (by rw [hv.2]))⟩
    · rintro (⟨hv, d⟩ | x)
      · have := (dist_zero hv.1).mp (by omega)
        rw [hv.2] at this
        exact this
      · exact absurd x (by simp)
  nbr := fun j h => absurd h (Nat.not_lt_zero _)
  nbr1 := fun _ u h1 h2 => by omega
theorem Lev.val {b : Bool} {n : Nat} {met here ahead : List (List Int)} {k i t : Nat} (h : Lev b n met here ahead k i t) {p : List Int} (hp : p ∈ met) : Val b n p := by
  rcases (h.me p).mp hp with x | x
  · exact x.1
  · exact (h.va p x).1
theorem Lev.size {b : Bool} {n : Nat} {met here ahead : List (List Int)} {k i t : Nat} (h : Lev b n met here ahead k i t) : met.length ≤ (allP b n).length ∧ here.length ≤ (allP b n).length ∧ ahead.length ≤ (allP b n).length :=
  ⟨nodup_le h.nd fun p hp => mem_allP (h.val hp), nodup_le h.ndh fun p hp => mem_allP ((h.hh p).mp hp).1, nodup_le h.nda fun p hp => mem_allP (h.va p hp).1⟩
theorem Lev.old {b : Bool} {n : Nat} {met here ahead : List (List Int)} {k i t : Nat} (h : Lev b n met here ahead k i t) (hm : tflip b (here.getD i []) (t + 1) ∈ met) : Lev b n met here ahead k i (t + 1) where
  nd := h.nd
  hh := h.hh
  ndh := h.ndh
  nda := h.nda
  va := h.va
  me := h.me
  nbr := h.nbr
  nbr1 := fun hi u h1 h2 => by
    by_cases e : u = t + 1
    · rw [e]
      exact hm
    · exact h.nbr1 hi u h1 (by omega)
theorem Lev.new {b : Bool} {n : Nat} {met here ahead : List (List Int)} {k i t : Nat} (h : Lev b n met here ahead k i t) (hi : i < here.length) (ht : t + 1 ≤ n) (hm : tflip b (here.getD i []) (t + 1) ∉ met) :
    Lev b n (met ++ [tflip b (here.getD i []) (t + 1)]) here (ahead ++ [tflip b (here.getD i []) (t + 1)]) k i (t + 1) := by
  have hv := (h.hh _).mp (getDl_mem hi)
  have h1 := dist_up hv.1.1 (t := t + 1) (by omega) (by rw [hv.1.2]; exact ht)
  have h2 : ¬ dist b (tflip b (here.getD i []) (t + 1)) ≤ k := fun hle => hm ((h.me _).mpr (.inl ⟨hv.1.flip _, hle⟩))
  have hd : dist b (tflip b (here.getD i []) (t + 1)) = k + 1 := by omega
  have hna : tflip b (here.getD i []) (t + 1) ∉ ahead := fun x => hm ((h.me _).mpr (.inr x))
  refine ⟨?_, h.hh, h.ndh, ?_, fun p hp => ?_, fun p => ?_, fun j hj hj2 u h1 h2 => List.mem_append_left _ (h.nbr j hj hj2 u h1 h2), fun _ u h1 h2 => ?_⟩
  · rw [List.nodup_append]
    refine ⟨h.nd, by simp, fun x hx y hy e => ?_⟩
    rw [List.mem_singleton.mp hy] at e
    exact hm (by rw [← e]; exact hx)
  · rw [List.nodup_append]
    refine ⟨h.nda, by simp, fun x hx y hy e => ?_⟩
    rw [List.mem_singleton.mp hy] at e
    exact hna (by rw [← e]; exact hx)
  · rcases List.mem_append.mp hp with q | q
    · exact h.va p q
    · rw [List.mem_singleton.mp q]
      exact ⟨hv.1.flip _, hd⟩
  · rw [List.mem_append, List.mem_append, h.me p, or_assoc]
  · by_cases e : u = t + 1
    · rw [e]
      exact List.mem_append_right _ (List.mem_singleton_self _)
    · exact List.mem_append_left _ (h.nbr1 hi u h1 (by omega))
theorem Lev.next {b : Bool} {n : Nat} {met here ahead : List (List Int)} {k i : Nat} (h : Lev b n met here ahead k i n) (hi : i < here.length) : Lev b n met here ahead k (i + 1) 0 where
  nd := h.nd
  hh := h.hh
  ndh := h.ndh
  nda := h.nda
  va := h.va
  me := h.me
  nbr := fun j hj hjl u h1 h2 => by
    by_cases e : j = i
    · rw [e]
      exact h.nbr1 hi u h1 h2
    · exact h.nbr j (by omega) hjl u h1 h2
  nbr1 := fun _ u h1 h2 => by omega
theorem Lev.up {b : Bool} {n : Nat} {met here ahead : List (List Int)} {k t : Nat} (h : Lev b n met here ahead k here.length t) : Lev b n met ahead [] (k + 1) 0 0 := by
  have key : ∀ p, Val b n p → dist b p = k + 1 → p ∈ ahead := fun p hv d => by
    obtain ⟨u, h1, h2, h3⟩ := dist_step hv.1 d
    obtain ⟨j, hj, e⟩ := mem_getDl ((h.hh _).mpr ⟨hv.flip u, h3⟩)
    have hm := h.nbr j hj hj u h1 (by rw [← hv.2]; exact h2)
    rw [e, tflip_tflip b h2] at hm
    rcases (h.me p).mp hm with x | x
    · have := x.2
      omega
    · exact x
  refine ⟨h.nd, fun p => ⟨h.va p, fun x => key p x.1 x.2⟩, h.nda, by simp, fun p x => absurd x (by simp), fun p => ?_, fun j hj => absurd hj (Nat.not_lt_zero _), fun _ u h1 h2 => by omega⟩
  rw [h.me p]
  constructor
  · rintro (x | x)
    · exact .inl ⟨x.1, by have := x.2; omega⟩
    · have := h.va p x
      exact .inl ⟨this.1, by omega⟩
  · rintro (x | x)
    · by_cases e : dist b p = k + 1
      · exact .inr (key p x.1 e)
      · exact .inl ⟨x.1, by have := x.2; omega⟩
    · exact absurd x (by simp)
/-- the tally of the first i of a row -/
noncomputable def tally (b : Bool) (m : Nat) (row : List (List Int)) : List Int := (List.range m).map fun k => (((row.filter fun p => decide (dist b p = k)).length : Nat) : Int)
theorem tally_length (b : Bool) (m : Nat) (row : List (List Int)) : (tally b m row).length = m := by
  unfold tally
  rw [List.length_map, List.length_range]
theorem tally_nil (b : Bool) (m : Nat) : tally b m [] = List.replicate m 0 := by
  unfold tally
  refine List.ext_getElem? fun i => ?_
  by_cases h : i < m
  · rw [List.getElem?_map, List.getElem?_range h, List.getElem?_replicate, if_pos h] <;> rfl
  · rw [List.getElem?_eq_none (by rw [List.length_map, List.length_range]; omega), List.getElem?_eq_none (by rw [List.length_replicate]; omega)]
theorem tally_at {b : Bool} {m k : Nat} {row : List (List Int)} (h : k < m) : (tally b m row)[k]? = some (((row.filter fun p => decide (dist b p = k)).length : Nat) : Int) := by
  unfold tally
  rw [List.getElem?_map, List.getElem?_range h] <;> rfl
theorem tally_snoc {b : Bool} {m : Nat} {row : List (List Int)} {p : List Int} : (tally b m row).set (dist b p) ((((row.filter fun q => decide (dist b q = dist b p)).length : Nat) : Int) + 1) = tally b m (row ++ [p]) := by
  refine List.ext_getElem? fun i => ?_
  by_cases h : i < m
  · rw [List.getElem?_set, tally_at h, tally_at h, List.filter_append, List.length_append]
    by_cases e : dist b p = i
    · rw [if_pos e, if_pos (by rw [tally_length]; omega), e]
      have : [p].filter (fun q => decide (dist b q = i)) = [p] := by
        rw [List.filter_cons, if_pos (decide_eq_true e)] <;> rfl
      rw [this] <;> rfl
    · rw [if_neg e]
      have : [p].filter (fun q => decide (dist b q = i)) = [] := by
        rw [List.filter_cons, if_neg (by simp [e])] <;> rfl
      rw [this] <;> rfl
  · rw [List.getElem?_eq_none (by rw [List.length_set, tally_length]; omega), List.getElem?_eq_none (by rw [tally_length]; omega)]
theorem tally_all {b : Bool} {n m : Nat} {row : List (List Int)} (h : IsAll b n row) : tally b m row = cntL b n m := by
  unfold tally cntL
  refine List.map_congr_left fun k _ => ?_
  rw [cnt_all h]
end FL
/-! ### words of the walk: ne (two addresses apart), hp (what stands at an address), free, same, sq (a list read), rd (reading on) -/
local macro_rules | `(tactic| walk_at "hp") => `(tactic| first
  | assumption
  | exact L2.upd_same
  | (refine FL.upd_old (by assumption) ?_; walk_at "hp")
  | (refine FL.upd_oth (by walk_at "ne") ?_; walk_at "hp")
  | (refine FL.Same.at (by assumption) ?_; walk_at "hp"))
local macro_rules | `(tactic| walk_at "ne") => `(tactic| first
  | assumption
  | exact Ne.symm (by assumption)
  | (refine L2.ne_of_none ?_ (by assumption); walk_at "hp")
  | (refine Ne.symm (L2.ne_of_none ?_ (by assumption)); walk_at "hp"))
local macro_rules | `(tactic| walk_at "free") => `(tactic| first
  | assumption
  | (refine FL.frees ?_ (by assumption); walk_at "same"))
local macro_rules | `(tactic| walk_at "same") => `(tactic| first
  | assumption
  | exact L2.Same.refl _
  | (refine FL.same_new ?_ (by assumption); walk_at "same")
  | (refine FL.same_mut ?_ ?_; (walk_at "same"); (walk_at "free"))
  | (refine L2.Same.trans ?_ (by assumption); walk_at "same"))
local macro_rules | `(tactic| walk_at "sq") => `(tactic| first
  | assumption
  | exact L2.SqL.of (by walk_at "hp")
  | (refine FL.sq_same ?_ (by assumption); walk_at "same"))
local macro_rules | `(tactic| walk_at "rd") => `(tactic| repeat (first
  | refine ⟨_, rfl, ?_⟩
  | refine ⟨_, _, rfl, rfl, ?_⟩
  | refine ⟨.inl ⟨rfl, _, by walk_at "sq"⟩, ?_⟩
  | refine ⟨_, _, rfl, .inl (by walk_at "sq"), ?_⟩
  | refine ⟨(by show (0 : Int) < _; decide), ?_⟩
  | refine ⟨⟨by decide, by decide⟩, ?_⟩
  | refine ⟨_, _, _, rfl, (by walk_at "sq"), (by first | decide | omega), ?_⟩))
namespace FL
open PySem L2
def sp_turned : Sp := fun vs H Q _ => ∃ (a : Addr) (ns : List Int) (k : Nat) (b : Bool), vs = [.ref a, .int (k : Nat), .bl b] ∧ H a = some (.lst (ns.map V.int)) ∧ k ≤ ns.length ∧ ns.length ≤ 1000 ∧ RL H (tflip b ns k) Q
noncomputable def fdist (b : Bool) (p : List Int) : V := V.int ((dist b p : Nat) : Int)
def sp_dist : Sp := fun vs H Q E => ∃ (n : Nat) (b : Bool), vs = [.int (n : Nat), .bl b] ∧ 1 ≤ n ∧ n ≤ (if b = true then 4 else 6) ∧
  ∀ (D : Addr) (row : List (List Int)) (H' : Hp), Same H H' → H D = none → H' D = some (.dT (dkv (fdist b) row)) → row.Nodup → (∀ p, p ∈ row ↔ Val b n p) → Q (.ref D) H'
def sp_flipped : Sp := fun vs H Q E => ∃ (a : Addr) (ns : List Int) (k : Nat), vs = [.ref a, .int (k : Nat)] ∧ H a = some (.lst (ns.map V.int)) ∧ ns.length ≤ 1000 ∧ RL H (pflip ns k) Q
def sp_burnt_flipped (K : PySem.W.Frag) : Sp := fun vs H Q E => ∃ (a : Addr) (ns : List Int) (k : Nat), vs = [.ref a, .int (k : Nat)] ∧ H a = some (.lst (ns.map V.int)) ∧ ns.length ≤ 1000 ∧ RL H (bflip ns k) Q
def fyes : List Int → V := fun _ => .bl true
def sp_layers : Sp := fun vs H Q E => ∃ (n : Nat) (b : Bool), vs = [.int (n : Nat), .bl b] ∧ 1 ≤ n ∧ n ≤ (if b = true then 4 else 6) ∧ ∀ k, Levs b n k → RL H (cntL b n k) Q
def LayInv (b : Bool) (n : Nat) (M F : Addr) (H : Hp) (k : Nat) (σ : L2.St) (H' : Hp) : Prop := ∃ (met here : List (List Int)) (as : List Addr) (h : Addr) (v5 v6 v7 v8 : Option V),
  σ = [some (.int (n : Nat)), some (.bl b), some (.ref h), some (.ref M), some (.ref F), v5, v6, v7, v8] ∧ Same H H' ∧ h ≠ F ∧ H' M = some (.dT (dkv fyes met)) ∧ H' h = some (.lst (as.map V.ref)) ∧ Rows H' as here ∧ H' F = some (.lst ((cntL b n k).map V.int)) ∧
  Lev b n met here [] k 0 0 ∧ ∀ j, j < k → 0 < cnt b n j
def LayIn (b : Bool) (n : Nat) (M F A h : Addr) (H : Hp) (k : Nat) (as : List Addr) (here : List (List Int)) (v6 : Option V → Prop) (i t : Nat) (σ : L2.St) (H' : Hp) : Prop := ∃ (met ahead : List (List Int)) (bs : List Addr) (x6 v7 v8 : Option V),
  v6 x6 ∧ σ = [some (.int (n : Nat)), some (.bl b), some (.ref h), some (.ref M), some (.ref F), some (.ref A), x6, v7, v8] ∧ Same H H' ∧ H' M = some (.dT (dkv fyes met)) ∧ H' h = some (.lst (as.map V.ref)) ∧ Rows H' as here ∧
  H' A = some (.lst (bs.map V.ref)) ∧ Rows H' bs ahead ∧ H' F = some (.lst ((cntL b n (k + 1)).map V.int)) ∧ Lev b n met here ahead k i t
def sp_counts : Sp := fun vs H Q E => ∃ n : Nat, vs = [.int (n : Nat)] ∧ 1 ≤ n ∧ n ≤ 6 ∧ ∀ k, Levs false n k → RL H (cntL false n k) Q
def cell (ns : List Int) (k : Nat) : Int := ns.getD k 0
def sp_cell (K : PySem.W.Frag) : Sp := fun vs H Q _ => ∃ (a : Addr) (ns : List Int) (t : Int), vs = [.ref a, .int t] ∧ SqL K H a (ns.map V.int) ∧ 0 ≤ t ∧ Q (.int (cell ns t.toNat)) H
def sp_burnt_counts : Sp := fun vs H Q E => ∃ n : Nat, vs = [.int (n : Nat)] ∧ 1 ≤ n ∧ n ≤ 4 ∧ ∀ k, Levs true n k → RL H (cntL true n k) Q
def sp_whole : Sp := fun vs H Q _ => ∃ (i : Int), vs = [.int i] ∧ Q (.bl true) H
def sp_numbers : Sp := fun vs H Q _ => ∃ (a : Addr) (ns : List Int) (lo hi : Int), vs = [.ref a, .int lo, .int hi] ∧ H a = some (.lst (ns.map V.int)) ∧ (∀ x ∈ ns, lo ≤ x ∧ x ≤ hi) ∧ Q (.bl true) H
theorem same_empty (H : Hp) : Same (fun _ => none) H := fun a o e => by cases e
theorem take_snocL {row : List (List Int)} {i : Nat} (h : i < row.length) : row.take (i + 1) = row.take i ++ [row.getD i []] := by
  rw [List.take_succ, List.getD_eq_getElem?_getD, List.getElem?_eq_getElem h] <;> rfl
theorem ixn_nat {n j : Nat} (hj : j < n) : ixN n (j : Int) = some j := by
  unfold ixN
  rw [if_pos (by omega), if_pos (by omega)] <;> rfl
end FL
namespace Toy
open PySem L2 FL
def top (i : Nat) : Stmt := PySem.Challenge.pw_flipstack_k09_counts.main.body.getD i (.Pass ⟨0, 0, 0, 0⟩)
abbrev s__law_turned : Stmt := top 15
theorem sc__law_turned : FnScope ["pile", "turn", "burnt", "sign", "k"] ["pile", "turn", "burnt"] (defScope s__law_turned) := ⟨rfl, rfl, rfl, by decide +kernel, rfl, by decide +kernel, by decide +kernel⟩
abbrev s__law_dist : Stmt := top 17
theorem sc__law_dist : FnScope ["size", "burnt", "start", "dist", "row", "at", "turn", "other"] ["size", "burnt"] (defScope s__law_dist) := ⟨rfl, rfl, rfl, by decide +kernel, rfl, by decide +kernel, by decide +kernel⟩
abbrev s_flipped : Stmt := top 4
theorem sc_flipped : FnScope ["pile", "turn"] ["pile", "turn"] (defScope s_flipped) := ⟨rfl, rfl, rfl, by decide +kernel, rfl, by decide +kernel, by decide +kernel⟩
abbrev s_burnt_flipped : Stmt := top 5
theorem sc_burnt_flipped : FnScope ["pile", "turn", "cake"] ["pile", "turn"] (defScope s_burnt_flipped) := ⟨rfl, rfl, rfl, by decide +kernel, rfl, by decide +kernel, by decide +kernel⟩
abbrev s_layers : Stmt := top 9
theorem sc_layers : FnScope ["size", "burnt", "here", "met", "found", "ahead", "pile", "turn", "other"] ["size", "burnt"] (defScope s_layers) := ⟨rfl, rfl, rfl, by decide +kernel, rfl, by decide +kernel, by decide +kernel⟩
abbrev s_counts : Stmt := top 10
theorem sc_counts : FnScope ["size"] ["size"] (defScope s_counts) := ⟨rfl, rfl, rfl, by decide +kernel, rfl, by decide +kernel, by decide +kernel⟩
abbrev s__law_cell_at : Stmt := top 13
theorem sc__law_cell_at : FnScope ["script", "k"] ["script", "k"] (defScope s__law_cell_at) := ⟨rfl, rfl, rfl, by decide +kernel, rfl, by decide +kernel, by decide +kernel⟩
abbrev s_burnt_counts : Stmt := top 11
theorem sc_burnt_counts : FnScope ["size"] ["size"] (defScope s_burnt_counts) := ⟨rfl, rfl, rfl, by decide +kernel, rfl, by decide +kernel, by decide +kernel⟩
abbrev s__law_whole : Stmt := top 14
theorem sc__law_whole : FnScope ["found"] ["found"] (defScope s__law_whole) := ⟨rfl, rfl, rfl, by decide +kernel, rfl, by decide +kernel, by decide +kernel⟩
abbrev s__law_numbers : Stmt := top 16
theorem sc__law_numbers : FnScope ["found", "low", "high", "number"] ["found", "low", "high"] (defScope s__law_numbers) := ⟨rfl, rfl, rfl, by decide +kernel, rfl, by decide +kernel, by decide +kernel⟩
abbrev s_law : Stmt := top 18
theorem sc_law : FnScope ["script", "burnt", "size", "dist", "most", "pile", "due", "again", "found"] ["script"] (defScope s_law) := ⟨rfl, rfl, rfl, by decide +kernel, rfl, by decide +kernel, by decide +kernel⟩
structure Txt (K : PySem.W.Frag) (mg : Str → Option Value) (c : ExA) : Prop where
  dum : True
  z_bool : mg "bool" = none
  z_int : mg "int" = none
  z_isinstance : mg "isinstance" = none
  z_len : mg "len" = none
  z_list : mg "list" = none
  z_max : mg "max" = none
  z_range : mg "range" = none
  z_reversed : mg "reversed" = none
  z_tuple : mg "tuple" = none
  m_MOST_COUNTED : ∃ t, mg "MOST_COUNTED" = some (.int 6 t)
  m_MOST_BURNT_COUNTED : ∃ t, mg "MOST_BURNT_COUNTED" = some (.int 4 t)
  e_FlipError : Exn K mg "FlipError" c.FlipError
  e_TooTall : Exn K mg "TooTall" c.TooTall
section
variable {P : Program} {w : World} {K : PySem.W.Frag} {mg : Str → Option Value} {base : Heap} {c : ExA} (T : Txt K mg c)
include T
theorem ok__law_turned {f : Addr} {fd : FuncData} (F : Fun K "_law_turned" "_law_turned" s__law_turned f fd) : FnOk P w K mg base (L2.CX P w) 1 f fd ["pile", "turn", "burnt"] sp_turned := by
  refine F.okX sc__law_turned (fun vs H Q E h => ?_) (fun cdv A outer s H vs Q E hr h => ?_)
  · obtain ⟨a, ns, k, b, rfl, _⟩ := h
    rfl
  · obtain ⟨a, ns, k, b, rfl, ha, hk, hlen, kQ⟩ := h
    refine ⟨_, (pss_cons (ps_set (i := 3) sc__law_turned.nd rfl (Or.inr rfl) (pe_ix ix_list (pe_lst (pa_cons pe_int (pa_cons (pe_un un_neg pe_int) pa_nil))) (pe_callTy call_int1 (by rfl) T.z_int (by decide +kernel) (pa_cons (pv 2) pa_nil)) (fun _ _ => rfl)))
      (pss_one (ps_ret (pe_op op_cat (pe_lc (own := [("k", 4)]) (g := gName 4) (tt := tYes) rfl sc__law_turned.nd (pi_range1 rfl T.z_range (pa_cons (pv 1) pa_nil)) (blkOk_by (own := [("k", 4)]) (N := ["pile", "turn", "burnt", "sign", "k"]) (sc := defScope s__law_turned) (by decide +kernel)) (fun _ _ _ _ _ => pg_name (i := 4) sc__law_turned.nd rfl (Or.inl rfl)) (fun _ _ _ _ _ => pts_nil) (fun _ _ _ _ _ => (pe_op op_mul (pv 3) (pe_ix (r := rIxL K) ix_list (pv 0) (pe_op op_sub (pe_op op_sub (pv 1) pe_int) (pv 4)) (fun _ _ => rfl))))) (pe_slice sl_list (pv 0) (po_some (pv 1)) po_none))))), ?_⟩
    refine ⟨_, rfl, ?_⟩
    refine ⟨(by show 2 ≤ sizeLine; decide), fun q hq => ?_⟩
    walk_at "rd"
    refine .inr ⟨b, rfl, ?_⟩
    refine ⟨q, _, _, V.int (if b = true then -1 else 1), rfl, rfl, by walk_at "sq", (by cases b <;> rfl), ?_⟩
    walk_at "rd"
    refine ⟨by omega, by omega, fun D hD => lc_yes (itr (H1 := H)) hD (by walk_at "same") (by omega) (fun j => V.int ((if b = true then -1 else 1) * ns.getD (k - 1 - j) 0)) (fun j H' Q' hj s q => ?_) (fun H2 s2 e2 => ?_)⟩
    · walk_at "rd"
      have h1 : k - 1 - j < ns.length := by omega
      refine ⟨a, _, _, V.int (ns.getD (k - 1 - j) 0), rfl, rfl, SqL.of (s _ _ (by walk_at "hp")), at_of (j := k - 1 - j) (by omega) (setInt (by rw [List.getElem?_eq_getElem h1, List.getD_eq_getElem?_getD, List.getElem?_eq_getElem h1]; rfl)), ?_⟩
      walk_at "rd"
      exact ⟨.inl (by cases b <;> decide), q _ (Same.refl _)⟩
    · walk_at "rd"
      refine ⟨_, _, rfl, by walk_at "sq", fun r hr' => ?_⟩
      refine ⟨_, _, _, _, rfl, rfl, by walk_at "hp", by walk_at "hp", ?_, fun t ht => ?_⟩
      · refine len_small ?_
        rw [cutI_from, List.length_map, List.length_map, List.length_range, List.length_drop]
        omega
      · refine kQ t _ (by walk_at "same") (by walk_at "free") ?_
        rw [upd_same, cutI_from, ← turned_eq b ns k hk]
        rfl
theorem ok__law_dist {f : Addr} {fd : FuncData} (F : Fun K "_law_dist" "_law_dist" s__law_dist f fd) (G__law_turned : Cal P w K mg base "_law_turned" 1 ["pile", "turn", "burnt"] sp_turned) : FnOk P w K mg base (L2.CX P w) 2 f fd ["size", "burnt"] sp_dist := by
  refine F.okX sc__law_dist (fun vs H Q E h => ?_) (fun cdv A outer s H vs Q E hr h => ?_)
  · obtain ⟨n, b, rfl, _⟩ := h
    rfl
  · obtain ⟨n, b, rfl, n1, n6, kQ⟩ := h
    have hB := allP_len b n6
    have n12 : n ≤ 6 := by
      cases b with
      | true => exact Nat.le_trans n6 (by decide)
      | false => exact n6
    refine ⟨_, (pss_cons (ps_set (i := 2) sc__law_dist.nd rfl (Or.inl rfl) (pe_tupRg rfl rfl T.z_tuple (prg_2 rfl T.z_range pe_int (pe_op op_add (pv 0) pe_int))))
      (pss_cons (ps_set (i := 3) sc__law_dist.nd rfl (Or.inl rfl) (FL.pe_disp1T (hu_of hr) (pv 2) pe_int))
      (pss_cons (ps_set (i := 4) sc__law_dist.nd rfl (Or.inl rfl) (pe_lst (pa_cons (pv 2) pa_nil)))
      (pss_cons (ps_set (i := 5) sc__law_dist.nd rfl (Or.inl rfl) pe_int)
      (pss_cons (ps_while (passes_of rfl) (pt_cmpR op_lt (pv 5) (pe_callB call_len_seq (by rfl) T.z_len PySem.boot_len (pa_cons (pv 4) pa_nil)) (nomark _)) (pss_cons (ps_for (passes_of rfl) rfl (pi_range2 rfl T.z_range (pa_cons pe_int (pa_cons (pe_op op_add (pv 0) pe_int) pa_nil))) (pg_name (i := 6) sc__law_dist.nd rfl (Or.inl rfl)) (pss_cons (ps_set (i := 7) sc__law_dist.nd rfl (Or.inl rfl) (pe_tupleOf rfl T.z_tuple (pe_cal G__law_turned hr (by decide) takes0 rfl (pa_cons (pe_callTy call_list_of (by rfl) T.z_list (by decide +kernel) (pa_cons (pe_ix ix_list (pv 4) (pv 5) (fun _ _ => rfl)) pa_nil)) (pa_cons (pv 6) (pa_cons (pv 1) pa_nil))))))
      (pss_one (ps_if (pt_cmp (pc_dnotin (hu_of hr) (pv 7) (pv 3)) rfl) (pss_cons (ps_dput (hu_of hr) (pv 3) (pv 7) (pe_op op_add (pe_dget (hu_of hr) (pv 3) (pe_ix ix_list (pv 4) (pv 5) (fun _ _ => rfl)) (fun _ _ => rfl)) pe_int) rfl)
      (pss_one (ps_expr (pe_bm PySem.F.plainAttrs_list PySem.F.slot_list_append PySem.F.type_list_append mt_append (pv 4) (pa_cons (pv 7) pa_nil))))) pss_nil))))
      (pss_one (ps_set (i := 5) sc__law_dist.nd rfl (Or.inl rfl) (pe_op op_add (pv 5) pe_int)))))
      (pss_one (ps_ret (pv 3)))))))), ?_⟩
    walk_at "rd"
    refine ⟨by unfold RgOk; exact ⟨by decide, by decide, by omega, by omega, by omega⟩, fun q hq => ?_⟩
    walk_at "rd"
    intro D hD
    walk_at "rd"
    have hqD : q ≠ D := ne_of_none upd_same hD
    refine ⟨upd_same, tk (upto n), q, rfl, ?_, ?_⟩
    · rw [tk_kV, upd_ne hqD, upd_same, rgV_upto n _ rfl]
    walk_at "rd"
    refine ⟨(by show 1 ≤ sizeLine; decide), fun R hR => ?_⟩
    walk_at "rd"
    have hDR : D ≠ R := ne_of_none upd_same hR
    have hqR : q ≠ R := by
      refine ne_of_none (o := .tup (rgV 1 ((n : Int) + 1))) ?_ hR
      rw [upd_ne hqD, upd_ne hqD]
      exact upd_same
    have fD : H D = none := by walk_at "free"
    have fR : H R = none := by walk_at "free"
    refine ⟨fun m σ H' => ∃ (row : List (List Int)) (as : List Addr) (i : Nat) (v6 v7 : Option V), σ = [some (.int (n : Nat)), some (.bl b), some (.ref q), some (.ref D), some (.ref R), some (.int (i : Nat)), v6, v7] ∧ Same H H' ∧
      H' D = some (.dT (dkv (fdist b) row)) ∧ H' R = some (.lst (as.map V.ref)) ∧ Rows H' as row ∧ Bfs b n row i 0 ∧ m = (allP b n).length - i, ⟨_, [upto n], [q], 0, none, none, rfl, by walk_at "same", ?_, upd_same, ?_, Bfs.start b n1 (by omega), rfl⟩, ?_⟩
    · rw [upd_ne hDR, upd_same]
      have : fdist b (upto n) = V.int 0 := by
        unfold fdist
        have hu := upto_isPv b n1 (show n ≤ 12 by omega)
        rw [(dist_zero hu.1).mpr (by rw [hu.2])] <;> rfl
      unfold dkv
      rw [List.map_cons, this] <;> rfl
    · refine ⟨rfl, fun j a e => ?_⟩
      have : j = 0 := by
        have := (List.getElem?_eq_some_iff.mp e).1
        have : j < 1 := this
        omega
      subst this
      cases e
      rw [upd_ne hqR, upd_ne hqD, upd_ne hqD, upd_same, rgV_upto n _ rfl] <;> rfl
    rintro m σ H' ⟨row, as, i, v6, v7, rfl, s, eD, eR, rs, bf, rfl⟩
    walk_at "rd"
    have hl : (as.map V.ref).length = row.length := by rw [List.length_map, rs.1]
    by_cases hi : i < row.length
    · refine iteDT (by rw [hl]; omega) ?_
      have hsz : row.length ≤ 720 := Nat.le_trans bf.size hB
      refine ⟨fun σ' H1 => ∃ (row : List (List Int)) (as : List Addr) (v6 v7 : Option V), σ' = [some (.int (n : Nat)), some (.bl b), some (.ref q), some (.ref D), some (.ref R), some (.int ((i : Int) + 1)), v6, v7] ∧ Same H H1 ∧
        H1 D = some (.dT (dkv (fdist b) row)) ∧ H1 R = some (.lst (as.map V.ref)) ∧ Rows H1 as row ∧ Bfs b n row (i + 1) 0, ?_, ?_⟩
      · rintro σ' H1 ⟨row1, as1, w6, w7, rfl, s1, eD1, eR1, rs1, bf1⟩
        have := bf.size
        exact ⟨_, by omega, row1, as1, i + 1, w6, w7, rfl, s1, eD1, eR1, rs1, bf1, rfl⟩
      walk_at "rd"
      have hn : (((n : Int) + 1) - 1).toNat = n := by omega
      refine ⟨_, _, rfl, ⟨by decide, by decide, by omega, by omega⟩, for_it (itr (H1 := H)) (fun t σ' H1 => ∃ (row : List (List Int)) (as : List Addr) (v6 v7 : Option V), σ' = [some (.int (n : Nat)), some (.bl b), some (.ref q), some (.ref D), some (.ref R), some (.int (i : Int)), v6, v7] ∧ Same H H1 ∧
        H1 D = some (.dT (dkv (fdist b) row)) ∧ H1 R = some (.lst (as.map V.ref)) ∧ Rows H1 as row ∧ i < row.length ∧ Bfs b n row i t)
        ⟨row, as, v6, v7, rfl, s, eD, eR, rs, hi, bf⟩ (fun t σ' H1 ⟨_, _, _, _, _, s, _⟩ => s) ?_ ?_⟩
      · rintro t σ' H1 ht ⟨row1, as1, w6, w7, rfl, s1, eD1, eR1, rs1, hi1, bf1⟩
        rw [hn] at ht
        clear eD eR rs bf hl hsz hi s
        have hsz : row1.length ≤ 720 := Nat.le_trans bf1.size hB
        obtain ⟨a, ha, ea⟩ := rs1.at hi1
        have ha' : (as1.map V.ref)[i]? = some (V.ref a) := by rw [List.getElem?_map, ha] <;> rfl
        have vr := bf1.val _ (getDl_mem hi1)
        walk_at "rd"
        refine ⟨R, _, _, V.ref a, rfl, rfl, SqL.of eR1, at_of (j := i) rfl ha', ?_⟩
        walk_at "rd"
        refine ⟨a, _, rfl, .inr (SqT.of ea), fun l hl => ?_⟩
        walk_at "rd"
        have eu : (1 : Int) + (t : Int) = ((t + 1 : Nat) : Int) := by omega
        rw [eu]
        refine ⟨l, row1.getD i [], t + 1, b, rfl, upd_same, by rw [vr.2]; omega, by rw [vr.2]; omega, fun p H3 s3 np ep => ?_⟩
        walk_at "rd"
        refine .inl ⟨p, _, rfl, SqL.of ep, fun o ho => ?_⟩
        have dl : D ≠ l := ne_of_none eD1 hl
        have rl : R ≠ l := ne_of_none eR1 hl
        have nD : D ≠ p := ne_of_none (by rw [upd_ne dl]; exact eD1) np
        have s4 : Same H1 (upd H3 o (.tup ((tflip b (row1.getD i []) (t + 1)).map V.int))) := same_new (Same.trans (same_new (Same.refl _) hl) s3) ho
        generalize hH4 : upd H3 o (.tup ((tflip b (row1.getD i []) (t + 1)).map V.int)) = H4 at s4
        have eo : H4 o = some (.tup ((tflip b (row1.getD i []) (t + 1)).map V.int)) := by rw [← hH4]; exact upd_same
        have eD4 := s4 _ _ eD1
        have eR4 := s4 _ _ eR1
        have ea4 := s4 _ _ ea
        have rs4 : Rows H4 as1 row1 := rs1.keep fun a xs e => s4 _ _ e
        have s5 : Same H H4 := s1.trans s4
        clear s4 hH4 ho ep np s3 hl eD1 eR1 rs1 s1 dl rl nD ea
        walk_at "rd"
        have eo' : H4 o = some (.tup ((tk (tflip b (row1.getD i []) (t + 1))).map kV)) := by rw [tk_kV]; exact eo
        have ea' : H4 a = some (.tup ((tk (row1.getD i [])).map kV)) := by rw [tk_kV]; exact ea4
        by_cases hm : tflip b (row1.getD i []) (t + 1) ∈ row1
        · refine ⟨D, _, rfl, DGet.t eD4 eo', ?_⟩
          rw [dkv_in hm]
          refine ⟨_, rfl, iteF ?_⟩
          exact ⟨row1, as1, _, _, rfl, s5, eD4, eR4, rs4, hi1, bf1.old hi1 hm⟩
        refine ⟨D, _, rfl, DGet.t eD4 eo', ?_⟩
        rw [dkv_out hm]
        refine ⟨_, rfl, iteT ?_⟩
        walk_at "rd"
        refine ⟨R, _, _, V.ref a, rfl, rfl, SqL.of eR4, at_of (j := i) rfl ha', ?_⟩
        refine ⟨D, V.int ((dist b (row1.getD i []) : Nat) : Int), rfl, ?_, ?_⟩
        · have := DGet.t eD4 ea'
          rw [dkv_in (getDl_mem hi1)] at this
          exact this
        walk_at "rd"
        refine ⟨D, _, rfl, DPut.t eD4 eo' (len_small' (by rw [dkv_len]; omega)), ?_⟩
        walk_at "rd"
        have hRD : R ≠ D := hDR.symm
        have hlen : (as1.map V.ref).length = row1.length := by rw [List.length_map, rs4.1]
        refine ⟨R, _, _, rfl, rfl, by rw [upd_ne hRD]; exact eR4, len_small' (by rw [hlen]; omega), ?_⟩
        have hdn : V.int (((dist b (row1.getD i []) : Nat) : Int) + 1) = fdist b (tflip b (row1.getD i []) (t + 1)) := by
          unfold fdist
          rw [bf1.dist_new hi1 (by omega) hm]
          congr 1
        have hput : putK (dkv (fdist b) row1) (tk (tflip b (row1.getD i []) (t + 1))) (V.int (((dist b (row1.getD i []) : Nat) : Int) + 1)) = dkv (fdist b) (row1 ++ [tflip b (row1.getD i []) (t + 1)]) := by rw [hdn, dkv_put hm]
        have keep : ∀ (z1 : List (List Key × V)) (z2 : List V) (x : Addr) (xs : List V), H4 x = some (.tup xs) → upd (upd H4 D (.dT z1)) R (.lst z2) x = some (.tup xs) := fun z1 z2 x xs e => by
          have x1 : x ≠ R := fun z => by rw [z, eR4] at e; cases e
          have x2 : x ≠ D := fun z => by rw [z, eD4] at e; cases e
          rw [upd_ne x1, upd_ne x2]
          exact e
        refine ⟨row1 ++ [tflip b (row1.getD i []) (t + 1)], as1 ++ [o], _, _, rfl, same_mut (same_mut s5 fD) fR, ?_, ?_, ?_, ?_, bf1.new hi1 (by omega) hm⟩
        · rw [upd_ne hDR, upd_same]
          exact congrArg (fun z => some (HO.dT z)) hput
        · rw [upd_same, List.map_append] <;> rfl
        · exact (rs4.keep (keep _ _)).snoc (keep _ _ _ _ eo)
        · rw [List.length_append]
          omega
      · rw [hn]
        rintro σ' H1 ⟨row1, as1, w6, w7, rfl, s1, eD1, eR1, rs1, hi1, bf1⟩
        walk_at "rd"
        exact ⟨row1, as1, _, _, rfl, s1, eD1, eR1, rs1, bf1.next hi1⟩
    · refine iteDF (by rw [hl]; omega) ?_
      walk_at "rd"
      exact kQ D row H' s fD eD bf.nd fun p => ⟨bf.val p, fun hp => bf.done (by omega) _ hp rfl⟩
theorem ok_flipped {f : Addr} {fd : FuncData} (F : Fun K "flipped" "flipped" s_flipped f fd) : FnOk P w K mg base (L2.CX P w) 1 f fd ["pile", "turn"] sp_flipped := by
  refine F.okX sc_flipped (fun vs H Q E h => ?_) (fun cdv A outer s H vs Q E hr h => ?_)
  · obtain ⟨a, ns, k, rfl, _⟩ := h
    rfl
  · obtain ⟨a, ns, k, rfl, ha, hlen, kQ⟩ := h
    refine ⟨_, (pss_one (ps_ret (pe_op op_cat (FL.pe_lstRev rfl rfl T.z_list rfl T.z_reversed (pe_slice sl_list (pv 0) po_none (po_some (pv 1)))) (pe_slice sl_list (pv 0) (po_some (pv 1)) po_none)))), ?_⟩
    walk_at "rd"
    refine ⟨_, _, rfl, by walk_at "sq", fun p hp => ?_⟩
    refine ⟨_, _, rfl, by walk_at "sq", fun q hq => ?_⟩
    walk_at "rd"
    refine ⟨_, _, rfl, by walk_at "sq", fun r hr' => ?_⟩
    refine ⟨_, _, _, _, rfl, rfl, by walk_at "hp", by walk_at "hp", ?_, fun t ht => ?_⟩
    · refine len_small ?_
      rw [List.length_reverse, cutI_to, cutI_from, List.length_map, List.length_map, List.length_take, List.length_drop]
      omega
    · refine kQ t _ (by walk_at "same") (by walk_at "free") ?_
      rw [upd_same, cutI_to, cutI_from, pflip, List.map_append, List.map_reverse]
theorem ok_burnt_flipped {f : Addr} {fd : FuncData} (F : Fun K "burnt_flipped" "burnt_flipped" s_burnt_flipped f fd) : FnOk P w K mg base (L2.CX P w) 1 f fd ["pile", "turn"] (sp_burnt_flipped K) := by
  refine F.okX sc_burnt_flipped (fun vs H Q E h => ?_) (fun cdv A outer s H vs Q E hr h => ?_)
  · obtain ⟨a, ns, k, rfl, _⟩ := h
    rfl
  · obtain ⟨a, ns, k, rfl, ha, hlen, kQ⟩ := h
    refine ⟨_, (pss_one (ps_ret (pe_op op_cat (pe_lc (own := [("cake", 2)]) (g := gName 2) (tt := tYes) rfl sc_burnt_flipped.nd (pi_reversed rfl T.z_reversed (pa_cons (pe_slice sl_list (pv 0) po_none (po_some (pv 1))) pa_nil)) (blkOk_by (own := [("cake", 2)]) (N := ["pile", "turn", "cake"]) (sc := defScope s_burnt_flipped) (by decide +kernel)) (fun _ _ _ _ _ => pg_name (i := 2) sc_burnt_flipped.nd rfl (Or.inl rfl)) (fun _ _ _ _ _ => pts_nil) (fun _ _ _ _ _ => (pe_un un_neg (pv 2)))) (pe_slice sl_list (pv 0) (po_some (pv 1)) po_none)))), ?_⟩
    walk_at "rd"
    refine ⟨_, _, rfl, by walk_at "sq", fun p hp => ?_⟩
    rw [cutI_to]
    have sp : Same H (upd H p (.lst ((ns.take k).map V.int))) := by walk_at "same"
    have ep : SqL K (upd H p (.lst ((ns.take k).map V.int))) p ((ns.take k).map V.int) := by walk_at "sq"
    generalize upd H p (.lst ((ns.take k).map V.int)) = H1 at sp ep
    refine ⟨_, _, rfl, ep, fun D hD => lc_map (itv_rev (ns := ns.take k) ep (by rw [List.length_map])) hD (Same.refl _) (by rw [List.length_reverse, List.length_take]; omega) (fun x => -x) (fun x H' Q' _ s q => ?_) (fun H2 s2 e2 => ?_)⟩
    · walk_at "rd"
      exact q _ (Same.refl _)
    · walk_at "rd"
      refine ⟨_, _, rfl, by walk_at "sq", fun r hr' => ?_⟩
      refine ⟨_, _, _, _, rfl, rfl, by walk_at "hp", by walk_at "hp", ?_, fun t ht => ?_⟩
      · refine len_small ?_
        rw [cutI_from, List.length_map, List.length_map, List.length_map, List.length_reverse, List.length_take, List.length_drop]
        omega
      · refine kQ t _ (by walk_at "same") (by walk_at "free") ?_
        rw [upd_same, cutI_from, bflip, List.map_append]
theorem ok_layers {f : Addr} {fd : FuncData} (F : Fun K "layers" "layers" s_layers f fd) (G_flipped : Cal P w K mg base "flipped" 1 ["pile", "turn"] sp_flipped) (G_burnt_flipped : Cal P w K mg base "burnt_flipped" 1 ["pile", "turn"] (sp_burnt_flipped K)) : FnOk P w K mg base (L2.CX P w) 2 f fd ["size", "burnt"] sp_layers := by
  refine F.okX sc_layers (fun vs H Q E h => ?_) (fun cdv A outer s H vs Q E hr h => ?_)
  · obtain ⟨n, b, rfl, _⟩ := h
    rfl
  · obtain ⟨n, b, rfl, n1, n6, kQ⟩ := h
    have hB := allP_len b n6
    have n12 : n ≤ 6 := by
      cases b with
      | true => exact Nat.le_trans n6 (by decide)
      | false => exact n6
    refine ⟨_, (pss_cons (ps_set (i := 2) sc_layers.nd rfl (Or.inl rfl) (pe_lst (pa_cons (pe_tupRg rfl rfl T.z_tuple (prg_2 rfl T.z_range pe_int (pe_op op_add (pv 0) pe_int))) pa_nil)))
      (pss_cons (ps_set (i := 3) sc_layers.nd rfl (Or.inl rfl) (FL.pe_disp1T (hu_of hr) (pe_ix ix_list (pv 2) pe_int (fun _ _ => rfl)) pe_bl))
      (pss_cons (ps_set (i := 4) sc_layers.nd rfl (Or.inl rfl) (pe_lst pa_nil))
      (pss_cons (ps_while (passes_of rfl) (pt_cmpR op_gt (pe_callB call_len_seq (by rfl) T.z_len PySem.boot_len (pa_cons (pv 2) pa_nil)) pe_int (nomark _)) (pss_cons (ps_expr (pe_bm PySem.F.plainAttrs_list PySem.F.slot_list_append PySem.F.type_list_append mt_append (pv 4) (pa_cons (pe_callB call_len_seq (by rfl) T.z_len PySem.boot_len (pa_cons (pv 2) pa_nil)) pa_nil)))
      (pss_cons (ps_set (i := 5) sc_layers.nd rfl (Or.inl rfl) (pe_lst pa_nil))
      (pss_cons (ps_for (passes_of rfl) rfl (pi_list (pv 2)) (pg_name (i := 6) sc_layers.nd rfl (Or.inl rfl)) (pss_one (ps_for (passes_of rfl) rfl (pi_range2 rfl T.z_range (pa_cons pe_int (pa_cons (pe_op op_add (pv 0) pe_int) pa_nil))) (pg_name (i := 7) sc_layers.nd rfl (Or.inl rfl)) (pss_cons (ps_set (i := 8) sc_layers.nd rfl (Or.inl rfl) (pe_cal G_flipped hr (by decide) takes0 rfl (pa_cons (pe_callTy call_list_of (by rfl) T.z_list (by decide +kernel) (pa_cons (pv 6) pa_nil)) (pa_cons (pv 7) pa_nil))))
      (Evl.pss_cut (ps_if (pt_val (pv 1)) (pss_one (ps_set (i := 8) sc_layers.nd rfl (Or.inl rfl) (pe_cal G_burnt_flipped hr (by decide) takes0 rfl (pa_cons (pe_callTy call_list_of (by rfl) T.z_list (by decide +kernel) (pa_cons (pv 6) pa_nil)) (pa_cons (pv 7) pa_nil))))) pss_nil)
      (pss_one (ps_if (pt_cmp (pc_dnotin (hu_of hr) (pe_tupleOf rfl T.z_tuple (pv 8)) (pv 3)) rfl) (pss_cons (ps_dput (hu_of hr) (pv 3) (pe_tupleOf rfl T.z_tuple (pv 8)) pe_bl rfl)
      (pss_one (ps_expr (pe_bm PySem.F.plainAttrs_list PySem.F.slot_list_append PySem.F.type_list_append mt_append (pv 5) (pa_cons (pe_tupleOf rfl T.z_tuple (pv 8)) pa_nil))))) pss_nil)))))))
      (pss_one (ps_set (i := 2) sc_layers.nd rfl (Or.inl rfl) (pv 5)))))))
      (pss_one (ps_ret (pv 4))))))), ?_⟩
    walk_at "rd"
    refine ⟨by unfold RgOk; exact ⟨by decide, by decide, by omega, by omega, by omega⟩, fun q hq => ?_⟩
    walk_at "rd"
    refine ⟨(by show 1 ≤ sizeLine; decide), fun h hh => ?_⟩
    have nqh : q ≠ h := ne_of_none upd_same hh
    walk_at "rd"
    intro M hM
    have nhM : h ≠ M := ne_of_none upd_same hM
    have nqM : q ≠ M := by
      refine ne_of_none (o := .tup (rgV 1 ((n : Int) + 1))) ?_ hM
      rw [upd_ne nqh]
      exact upd_same
    walk_at "rd"
    refine ⟨h, _, _, V.ref q, rfl, rfl, SqL.of (by rw [upd_ne nhM]; exact upd_same), at_of (j := 0) rfl rfl, ?_⟩
    walk_at "rd"
    refine ⟨upd_same, tk (upto n), q, rfl, ?_, ?_⟩
    · rw [tk_kV, upd_ne nqM, upd_ne nqh, upd_same, rgV_upto n _ rfl]
    walk_at "rd"
    refine ⟨Nat.zero_le _, fun F hF => ?_⟩
    have fM : H M = none := by
      have hM' := hM
      rw [upd_ne nhM.symm, upd_ne nqM.symm] at hM'
      exact hM'
    generalize eH : upd (upd (upd (upd H q (.tup (rgV 1 ((n : Int) + 1)))) h (.lst [V.ref q])) M (.dT [])) M (.dT [(tk (upto n), V.bl true)]) = H0 at hF
    have s0 : Same H H0 := by
      rw [← eH]
      exact same_mut (same_mut (same_new (same_new (Same.refl _) hq) hh) fM) fM
    have eq0 : H0 q = some (.tup ((upto n).map V.int)) := by
      rw [← eH, upd_ne nqM, upd_ne nqM, upd_ne nqh, upd_same, rgV_upto n _ rfl]
    have eh0 : H0 h = some (.lst ([q].map V.ref)) := by
      rw [← eH, upd_ne nhM, upd_ne nhM, upd_same] <;> rfl
    have eM0 : H0 M = some (.dT (dkv fyes [upto n])) := by rw [← eH, upd_same] <;> rfl
    clear eH hM hh hq
    have fF : H F = none := s0.free hF
    have nMF : M ≠ F := ne_of_none eM0 hF
    walk_at "rd"
    refine ⟨fun m σ H' => ∃ k, LayInv b n M F H k σ H' ∧ m = 101 - k, ⟨_, 0, ⟨[upto n], [upto n], [q], h, none, none, none, none, rfl, same_new s0 hF, ne_of_none eh0 hF, upd_old hF eM0, upd_old hF eh0, ?_, upd_same, Lev.start b n1 (by omega), fun j hj => absurd hj (Nat.not_lt_zero _)⟩, rfl⟩, ?_⟩
    · refine ⟨rfl, fun j a e => ?_⟩
      have : j = 0 := by
        have := (List.getElem?_eq_some_iff.mp e).1
        have : j < 1 := this
        omega
      subst this
      cases e
      exact upd_old hF eq0
    clear hF eq0 eh0 eM0 s0
    rintro m σ H' ⟨k, ⟨met, here, as, h, v5, v6, v7, v8, rfl, s, nhF, eM, eh, rs, eF, lv, hpos⟩, rfl⟩
    have hl : (as.map V.ref).length = here.length := by rw [List.length_map, rs.1]
    have hck := cnt_of lv.ndh lv.hh
    walk_at "rd"
    by_cases h0 : here.length = 0
    · refine iteDF (by rw [hl]; omega) ?_
      walk_at "rd"
      exact kQ k ⟨hpos, by omega⟩ F H' s fF eF
    refine iteDT (by rw [hl]; omega) ?_
    obtain ⟨p0, v0, d0⟩ := cnt_pos.mp (show 0 < cnt b n k by omega)
    have hk100 : k ≤ 100 := by
      have := dist_100 v0.1
      omega
    refine ⟨fun σ' H1 => LayInv b n M F H (k + 1) σ' H1, fun σ' H1 hI => ⟨_, by omega, k + 1, hI, rfl⟩, ?_⟩
    walk_at "rd"
    refine ⟨F, _, _, rfl, rfl, eF, len_small' (by rw [List.length_map, cntL_length]; omega), ?_⟩
    walk_at "rd"
    refine ⟨Nat.zero_le _, fun A hA => ?_⟩
    walk_at "rd"
    have hc1 : (cntL b n k).map V.int ++ [V.int (((as.map V.ref).length : Nat) : Int)] = (cntL b n (k + 1)).map V.int := by
      rw [cntL_snoc, List.map_append, hl, hck] <;> rfl
    have hFh : F ≠ h := nhF.symm
    have hMF : M ≠ F := fun z => by rw [z, eF] at eM; cases eM
    have hA' := hA
    have eM1 : upd H' F (.lst ((cntL b n k).map V.int ++ [V.int (((as.map V.ref).length : Nat) : Int)])) M = some (.dT (dkv fyes met)) := by rw [upd_ne hMF]; exact eM
    have eh1 : upd H' F (.lst ((cntL b n k).map V.int ++ [V.int (((as.map V.ref).length : Nat) : Int)])) h = some (.lst (as.map V.ref)) := by rw [upd_ne nhF]; exact eh
    have eF1 : upd H' F (.lst ((cntL b n k).map V.int ++ [V.int (((as.map V.ref).length : Nat) : Int)])) F = some (.lst ((cntL b n (k + 1)).map V.int)) := by rw [upd_same, hc1]
    have rs1 : Rows (upd H' F (.lst ((cntL b n k).map V.int ++ [V.int (((as.map V.ref).length : Nat) : Int)]))) as here := rs.keep fun x xs e => by
      rw [upd_ne (fun z => by rw [z, eF] at e; cases e)]
      exact e
    have s1 : Same H (upd H' F (.lst ((cntL b n k).map V.int ++ [V.int (((as.map V.ref).length : Nat) : Int)]))) := same_mut s fF
    generalize upd H' F (.lst ((cntL b n k).map V.int ++ [V.int (((as.map V.ref).length : Nat) : Int)])) = H1 at *
    have nhA : h ≠ A := ne_of_none eh1 hA
    have nFA : F ≠ A := ne_of_none eF1 hA
    have fA : H A = none := s1.free hA
    have hn : (((n : Int) + 1) - 1).toNat = n := by omega
    clear eM eh eF rs s hA'
    refine ⟨⟨_, SqL.of (upd_old hA eh1)⟩, for_list (fun i σ' H2 => LayIn b n M F A h H k as here (fun _ => True) i 0 σ' H2)
      ⟨met, [], [], v6, v7, v8, True.intro, rfl, same_new s1 hA, upd_old hA eM1, upd_old hA eh1, ?_, upd_same, ⟨rfl, fun j x e => by cases e⟩, upd_old hA eF1, lv⟩
      (fun i σ' H2 _ ⟨_, _, _, _, _, _, _, _, _, _, e, _⟩ => SqL.of e) ?_ ?_⟩
    · exact rs1.keep fun x xs e => upd_old hA e
    · clear lv eM1 eh1 eF1 rs1 s1 hA met v6 v7 v8
      rintro i x σ' H2 hx ⟨met, ahead, bs, x6, v7, v8, _, rfl, s, eM, eh, rs, eA, ra, eF, lv⟩
      obtain ⟨a, ha, rfl⟩ : ∃ a, as[i]? = some a ∧ x = V.ref a := by
        rw [List.getElem?_map] at hx
        cases hc : as[i]? with
        | none => rw [hc] at hx; cases hx
        | some a => rw [hc] at hx; exact ⟨a, rfl, (Option.some.inj hx).symm⟩
      have hi : i < here.length := by
        have := (List.getElem?_eq_some_iff.mp ha).1
        rw [rs.1] at this
        exact this
      walk_at "rd"
      refine ⟨_, _, rfl, ⟨by decide, by decide, by omega, by omega⟩, for_it (itr (H1 := H)) (fun t σ' H1 => LayIn b n M F A h H k as here (fun v => v = some (V.ref a)) i t σ' H1)
        ⟨met, ahead, bs, _, v7, v8, rfl, rfl, s, eM, eh, rs, eA, ra, eF, lv⟩ (fun t σ' H1 ⟨_, _, _, _, _, _, _, _, s, _⟩ => s) ?_ ?_⟩
      · rw [hn]
        clear s eM eh rs eA ra eF lv met ahead bs v7 v8 x6 hx
        rintro t σ' H1 ht ⟨met, ahead, bs, x6, v7, v8, rfl, rfl, s, eM, eh, rs, eA, ra, eF, lv⟩
        have ea : H1 a = some (.tup ((here.getD i []).map V.int)) := rs.2 i a ha
        have hv := (lv.hh _).mp (getDl_mem hi)
        have hlen := hv.1.2
        walk_at "rd"
        refine ⟨a, _, rfl, .inr (SqT.of ea), fun l hl => ?_⟩
        walk_at "rd"
        have eu : (1 : Int) + (t : Int) = ((t + 1 : Nat) : Int) := by omega
        rw [eu]
        refine ⟨l, here.getD i [], t + 1, rfl, upd_same, by omega, fun p H2 s2 np ep => ?_⟩
        have dl : ∀ (y : Addr) (u : HO), H1 y = some u → y ≠ l := fun y u e => ne_of_none e hl
        have s12 : Same H1 H2 := Same.trans (same_new (Same.refl _) hl) s2
        clear hl dl np s2
        refine ⟨fun σ' H3 => ∃ o, σ' = [some (.int (n : Nat)), some (.bl b), some (.ref h), some (.ref M), some (.ref F), some (.ref A), some (.ref a), some (.int ((t + 1 : Nat) : Int)), some (.ref o)] ∧ Same H1 H3 ∧ H3 o = some (.lst ((tflip b (here.getD i []) (t + 1)).map V.int)), ?_, ?_⟩
        · walk_at "rd"
          cases b with
          | false =>
            refine iteF ?_
            exact ⟨p, rfl, s12, ep⟩
          | true =>
            refine iteT ?_
            have ea2 := s12 _ _ ea
            walk_at "rd"
            refine ⟨a, _, rfl, .inr (SqT.of ea2), fun l2 hl2 => ?_⟩
            walk_at "rd"
            refine ⟨l2, here.getD i [], t + 1, rfl, upd_same, by omega, fun p2 H3 s3 np2 ep2 => ?_⟩
            exact ⟨p2, rfl, s12.trans (Same.trans (same_new (Same.refl _) hl2) s3), ep2⟩
        clear ep s12 H2 p
        rintro σ' H2 ⟨o, rfl, s2, eo⟩
        have s := s.trans s2
        have eM := s2 _ _ eM
        have eh := s2 _ _ eh
        have eA := s2 _ _ eA
        have eF := s2 _ _ eF
        have rs := rs.keep fun x xs e => s2 x _ e
        have ra := ra.keep fun x xs e => s2 x _ e
        clear s2 ea
        have hz := lv.size
        have hle : (bs.map V.ref).length = ahead.length := by rw [List.length_map, ra.1]
        walk_at "rd"
        refine .inl ⟨o, _, rfl, SqL.of eo, fun c1 hc1 => ?_⟩
        walk_at "rd"
        by_cases hm : tflip b (here.getD i []) (t + 1) ∈ met
        · refine ⟨M, _, rfl, dget_of (f := fyes) (.inl (upd_old hc1 eM)) hm upd_same, ?_⟩
          refine ⟨_, rfl, iteF ?_⟩
          exact ⟨met, ahead, bs, _, _, _, rfl, rfl, same_new s hc1, upd_old hc1 eM, upd_old hc1 eh, rs.keep fun x xs e => upd_old hc1 e, upd_old hc1 eA, ra.keep fun x xs e => upd_old hc1 e, upd_old hc1 eF, lv.old hm⟩
        refine ⟨M, _, rfl, dget_no (f := fyes) (.inl (upd_old hc1 eM)) hm upd_same, ?_⟩
        refine ⟨_, rfl, iteT ?_⟩
        have eo := upd_old (o := .tup ((tflip b (here.getD i []) (t + 1)).map V.int)) hc1 eo
        have s := same_new (o := .tup ((tflip b (here.getD i []) (t + 1)).map V.int)) s hc1
        have eM := upd_old (o := .tup ((tflip b (here.getD i []) (t + 1)).map V.int)) hc1 eM
        have eh := upd_old (o := .tup ((tflip b (here.getD i []) (t + 1)).map V.int)) hc1 eh
        have eA := upd_old (o := .tup ((tflip b (here.getD i []) (t + 1)).map V.int)) hc1 eA
        have eF := upd_old (o := .tup ((tflip b (here.getD i []) (t + 1)).map V.int)) hc1 eF
        have rs : Rows (upd H2 c1 (.tup ((tflip b (here.getD i []) (t + 1)).map V.int))) as here := rs.keep fun x xs e => upd_old hc1 e
        have ra : Rows (upd H2 c1 (.tup ((tflip b (here.getD i []) (t + 1)).map V.int))) bs ahead := ra.keep fun x xs e => upd_old hc1 e
        generalize upd H2 c1 (.tup ((tflip b (here.getD i []) (t + 1)).map V.int)) = H3 at eo s eM eh eA eF rs ra
        walk_at "rd"
        refine .inl ⟨o, _, rfl, SqL.of eo, fun c2 hc2 => ?_⟩
        walk_at "rd"
        have eM' := upd_old (o := .tup ((tflip b (here.getD i []) (t + 1)).map V.int)) hc2 eM
        refine ⟨M, _, rfl, DPut.t (k := tk (tflip b (here.getD i []) (t + 1))) eM' (by rw [tk_kV]; exact upd_same) (len_small' (by rw [dkv_len]; omega)), ?_⟩
        have hput : putK (dkv fyes met) (tk (tflip b (here.getD i []) (t + 1))) (V.bl true) = dkv fyes (met ++ [tflip b (here.getD i []) (t + 1)]) := dkv_put (f := fyes) hm
        rw [hput]
        have nM : ∀ (y : Addr) (xs : List V), H3 y = some (.lst xs) → y ≠ M := fun y xs e z => by rw [z, eM] at e; cases e
        have nM2 : ∀ (y : Addr) (xs : List V), H3 y = some (.tup xs) → y ≠ M := fun y xs e z => by rw [z, eM] at e; cases e
        have eo : upd (upd H3 c2 (.tup ((tflip b (here.getD i []) (t + 1)).map V.int))) M (.dT (dkv fyes (met ++ [tflip b (here.getD i []) (t + 1)]))) o = _ := upd_oth (nM _ _ eo) (upd_old hc2 eo)
        have eh : upd (upd H3 c2 (.tup ((tflip b (here.getD i []) (t + 1)).map V.int))) M (.dT (dkv fyes (met ++ [tflip b (here.getD i []) (t + 1)]))) h = _ := upd_oth (nM _ _ eh) (upd_old hc2 eh)
        have eA : upd (upd H3 c2 (.tup ((tflip b (here.getD i []) (t + 1)).map V.int))) M (.dT (dkv fyes (met ++ [tflip b (here.getD i []) (t + 1)]))) A = _ := upd_oth (nM _ _ eA) (upd_old hc2 eA)
        have eF : upd (upd H3 c2 (.tup ((tflip b (here.getD i []) (t + 1)).map V.int))) M (.dT (dkv fyes (met ++ [tflip b (here.getD i []) (t + 1)]))) F = _ := upd_oth (nM _ _ eF) (upd_old hc2 eF)
        have rs : Rows (upd (upd H3 c2 (.tup ((tflip b (here.getD i []) (t + 1)).map V.int))) M (.dT (dkv fyes (met ++ [tflip b (here.getD i []) (t + 1)])))) as here := rs.keep fun x xs e => upd_oth (nM2 _ _ e) (upd_old hc2 e)
        have ra : Rows (upd (upd H3 c2 (.tup ((tflip b (here.getD i []) (t + 1)).map V.int))) M (.dT (dkv fyes (met ++ [tflip b (here.getD i []) (t + 1)])))) bs ahead := ra.keep fun x xs e => upd_oth (nM2 _ _ e) (upd_old hc2 e)
        have s : Same H (upd (upd H3 c2 (.tup ((tflip b (here.getD i []) (t + 1)).map V.int))) M (.dT (dkv fyes (met ++ [tflip b (here.getD i []) (t + 1)])))) := same_mut (same_new s hc2) fM
        have eM : upd (upd H3 c2 (.tup ((tflip b (here.getD i []) (t + 1)).map V.int))) M (.dT (dkv fyes (met ++ [tflip b (here.getD i []) (t + 1)]))) M = _ := upd_same
        generalize upd (upd H3 c2 (.tup ((tflip b (here.getD i []) (t + 1)).map V.int))) M (.dT (dkv fyes (met ++ [tflip b (here.getD i []) (t + 1)]))) = H4 at eo s eM eh eA eF rs ra
        clear eM' hput nM nM2 hc2 hc1
        walk_at "rd"
        refine .inl ⟨o, _, rfl, SqL.of eo, fun c3 hc3 => ?_⟩
        walk_at "rd"
        refine ⟨A, _, _, rfl, rfl, upd_old hc3 eA, len_small' (by rw [hle]; omega), ?_⟩
        have nA : ∀ (y : Addr) (xs : List V), H4 y = some (.tup xs) → y ≠ A := fun y xs e z => by rw [z, eA] at e; cases e
        refine ⟨_, _, bs ++ [c3], _, _, _, rfl, rfl, same_mut (same_new s hc3) fA, upd_oth (fun z => by rw [z, eA] at eM; cases eM) (upd_old hc3 eM), upd_oth nhA (upd_old hc3 eh), ?_, ?_, ?_, upd_oth nFA (upd_old hc3 eF), lv.new hi (by omega) hm⟩
        · exact rs.keep fun x xs e => upd_oth (nA _ _ e) (upd_old hc3 e)
        · rw [upd_same, List.map_append] <;> rfl
        · refine Rows.snoc (ra.keep fun x xs e => upd_oth (nA _ _ e) (upd_old hc3 e)) ?_
          exact upd_oth (fun z => by have := upd_old (o := .tup ((tflip b (here.getD i []) (t + 1)).map V.int)) hc3 eA; rw [← z, upd_same] at this; cases this) upd_same
      · rw [hn]
        rintro σ' H1 ⟨met, ahead, bs, x6, v7, v8, rfl, rfl, s, eM, eh, rs, eA, ra, eF, lv⟩
        exact ⟨met, ahead, bs, _, v7, v8, True.intro, rfl, s, eM, eh, rs, eA, ra, eF, lv.next hi⟩
    · rw [hl]
      rintro σ' H2 ⟨met', ahead, bs, x6, v7, v8, _, rfl, s, eM, eh, rs, eA, ra, eF, lv'⟩
      walk_at "rd"
      refine ⟨met', ahead, bs, A, _, _, _, _, rfl, s, nFA.symm, eM, eA, ra, eF, lv'.up, fun j hj => ?_⟩
      by_cases e : j = k
      · rw [e]
        omega
      · exact hpos j (by omega)
theorem ok_counts {f : Addr} {fd : FuncData} (F : Fun K "counts" "counts" s_counts f fd) (G_layers : Cal P w K mg base "layers" 2 ["size", "burnt"] sp_layers) : FnOk P w K mg base (L2.CX P w) 3 f fd ["size"] sp_counts := by
  refine F.okX sc_counts (fun vs H Q E h => ?_) (fun cdv A outer s H vs Q E hr h => ?_)
  · obtain ⟨n, rfl, _⟩ := h
    rfl
  · obtain ⟨n, rfl, n1, n6, kQ⟩ := h
    obtain ⟨tM, m_MOST_COUNTED⟩ := T.m_MOST_COUNTED
    refine ⟨_, (pss_cons (ps_if (PW.pt (pw_or (pt_cmpR op_lt (pv 0) pe_int (nomark _)) (pw_or1 (pt_cmpR op_gt (pv 0) (pe_glob (v := .int 6) rfl m_MOST_COUNTED ⟨_, rfl⟩) (nomark _))))) (pss_one (ps_raise rfl tkOf (pmk_own PySem.F.excBase_ValueError T.e_TooTall.x T.e_TooTall.g T.e_TooTall.k (raises_own T.e_TooTall.b T.e_TooTall.t) rfl))) pss_nil)
      (pss_one (ps_ret (pe_cal G_layers hr (by decide) tkOf rfl (pa_cons (pv 0) (pa_cons pe_bl pa_nil)))))), ?_⟩
    walk_at "rd"
    refine iteDF (show ¬ (n : Int) < 1 by omega) ?_
    walk_at "rd"
    refine iteDF (show ¬ (6 : Int) < (n : Int) by omega) ?_
    walk_at "rd"
    exact ⟨n, false, rfl, n1, n6, kQ⟩
theorem ok__law_cell_at {f : Addr} {fd : FuncData} (F : Fun K "_law_cell_at" "_law_cell_at" s__law_cell_at f fd) : FnOk P w K mg base (L2.CX P w) 1 f fd ["script", "k"] (sp_cell K) := by
  refine F.okX sc__law_cell_at (fun vs H Q E h => ?_) (fun cdv A outer s H vs Q E hr h => ?_)
  · obtain ⟨a, ns, t, rfl, _⟩ := h
    rfl
  · obtain ⟨a, ns, t, rfl, hS, h0, kQ⟩ := h
    obtain ⟨k, rfl⟩ : ∃ k : Nat, t = (k : Int) := ⟨t.toNat, by omega⟩
    rw [Int.toNat_natCast] at kQ
    refine ⟨_, (pss_cons (ps_if (pt_cmpR op_lt (pv 1) (pe_callB call_len_seq (by rfl) T.z_len PySem.boot_len (pa_cons (pv 0) pa_nil)) (nomark _)) (pss_one (ps_ret (pe_ix ix_list (pv 0) (pv 1) (fun _ _ => rfl)))) pss_nil)
      (pss_one (ps_ret pe_int))), ?_⟩
    walk_at "rd"
    by_cases hk : k < ns.length
    · refine iteDT (by rw [List.length_map]; omega) ?_
      walk_at "rd"
      refine ⟨_, _, _, _, rfl, rfl, by walk_at "sq", atI_nat (j := k) (v := V.int (cell ns k)) ?_, kQ⟩
      rw [List.getElem?_map, List.getElem?_eq_getElem hk]
      show some (V.int _) = some (V.int _)
      unfold cell
      rw [List.getD_eq_getElem?_getD, List.getElem?_eq_getElem hk]
      rfl
    · refine iteDF (by rw [List.length_map]; omega) ?_
      have e : cell ns k = 0 := by
        unfold cell
        rw [List.getD_eq_getElem?_getD, List.getElem?_eq_none (by omega)]
        rfl
      rw [e] at kQ
      exact kQ
theorem ok_burnt_counts {f : Addr} {fd : FuncData} (F : Fun K "burnt_counts" "burnt_counts" s_burnt_counts f fd) (G_layers : Cal P w K mg base "layers" 2 ["size", "burnt"] sp_layers) : FnOk P w K mg base (L2.CX P w) 3 f fd ["size"] sp_burnt_counts := by
  refine F.okX sc_burnt_counts (fun vs H Q E h => ?_) (fun cdv A outer s H vs Q E hr h => ?_)
  · obtain ⟨n, rfl, _⟩ := h
    rfl
  · obtain ⟨n, rfl, n1, n6, kQ⟩ := h
    obtain ⟨tM, m_MOST_BURNT_COUNTED⟩ := T.m_MOST_BURNT_COUNTED
    refine ⟨_, (pss_cons (ps_if (PW.pt (pw_or (pt_cmpR op_lt (pv 0) pe_int (nomark _)) (pw_or1 (pt_cmpR op_gt (pv 0) (pe_glob (v := .int 4) rfl m_MOST_BURNT_COUNTED ⟨_, rfl⟩) (nomark _))))) (pss_one (ps_raise rfl tkOf (pmk_own PySem.F.excBase_ValueError T.e_TooTall.x T.e_TooTall.g T.e_TooTall.k (raises_own T.e_TooTall.b T.e_TooTall.t) rfl))) pss_nil)
      (pss_one (ps_ret (pe_cal G_layers hr (by decide) tkOf rfl (pa_cons (pv 0) (pa_cons pe_bl pa_nil)))))), ?_⟩
    walk_at "rd"
    refine iteDF (show ¬ (n : Int) < 1 by omega) ?_
    walk_at "rd"
    refine iteDF (show ¬ (4 : Int) < (n : Int) by omega) ?_
    walk_at "rd"
    exact ⟨n, true, rfl, n1, n6, kQ⟩
theorem ok__law_whole {f : Addr} {fd : FuncData} (F : Fun K "_law_whole" "_law_whole" s__law_whole f fd) : FnOk P w K mg base (L2.CX P w) 1 f fd ["found"] sp_whole := by
  refine F.okX sc__law_whole (fun vs H Q E h => ?_) (fun cdv A outer s H vs Q E hr h => ?_)
  · obtain ⟨i, rfl, _⟩ := h
    rfl
  · obtain ⟨i, rfl, kQ⟩ := h
    refine ⟨_, (pss_one (ps_ret (pe_and (pe_callB call_isi (by rfl) T.z_isinstance (by decide +kernel) (pa_cons (pv 0) (pa_cons (pe_bltn (v := .ty "int") (u := .type "int") rfl T.z_int (by decide +kernel) rfl) pa_nil))) (pe_one (pe_not (pe_callB call_isi (by rfl) T.z_isinstance (by decide +kernel) (pa_cons (pv 0) (pa_cons (pe_bltn (v := .ty "bool") (u := .type "bool") rfl T.z_bool (by decide +kernel) rfl) pa_nil)))))))), ?_⟩
    walk_at "rd"
    refine ⟨.int i, .ty "int", _, _, true, rfl, .ty _, .base (.int i), kit_ty (by decide +kernel), true, rfl, iteT ?_⟩
    walk_at "rd"
    exact ⟨.int i, .ty "bool", _, _, false, rfl, .ty _, .base (.int i), kit_ty (by decide +kernel), false, rfl, kQ⟩
theorem ok__law_numbers {f : Addr} {fd : FuncData} (F : Fun K "_law_numbers" "_law_numbers" s__law_numbers f fd) (G__law_whole : Cal P w K mg base "_law_whole" 1 ["found"] sp_whole) : FnOk P w K mg base (L2.CX P w) 2 f fd ["found", "low", "high"] sp_numbers := by
  refine F.okX sc__law_numbers (fun vs H Q E h => ?_) (fun cdv A outer s H vs Q E hr h => ?_)
  · obtain ⟨a, ns, lo, hi, rfl, _⟩ := h
    rfl
  · obtain ⟨a, ns, lo, hi, rfl, ha, hall, kQ⟩ := h
    refine ⟨_, (pss_cons (ps_if (pt_not (pt_val (pe_callB call_isi (by rfl) T.z_isinstance (by decide +kernel) (pa_cons (pv 0) (pa_cons (pe_bltn (v := .ty "list") (u := .type "list") rfl T.z_list (by decide +kernel) rfl) pa_nil))))) (pss_one (ps_ret pe_bl)) pss_nil)
      (pss_cons (ps_for (passes_of rfl) rfl (pi_list (pv 0)) (pg_name (i := 3) sc__law_numbers.nd rfl (Or.inl rfl)) (pss_one (ps_if (PW.pt (pw_or (pt_not (pt_val (pe_cal G__law_whole hr (by decide) takes0 rfl (pa_cons (pv 3) pa_nil)))) (pw_or1 (pt_not (pt_chain op_le op_le (pv 1) (pv 3) (pv 2)))))) (pss_one (ps_ret pe_bl)) pss_nil)))
      (pss_one (ps_ret pe_bl)))), ?_⟩
    walk_at "rd"
    refine ⟨.ref a, .ty "list", _, _, true, rfl, .ty _, .base (.lst ha), kit_ty (by decide +kernel), true, rfl, iteF ?_⟩
    walk_at "rd"
    refine ⟨⟨_, by walk_at "sq"⟩, for_it (itl_ints (K := K) (ns := ns) (H1 := H) (SqL.of ha))
      (fun i σ H' => ∃ (v : Option V), σ = [some (.ref a), some (.int lo), some (.int hi), v] ∧ H' = H) ⟨none, rfl, rfl⟩ (fun i σ H' ⟨_, _, e⟩ => by rw [e]; exact Same.refl _) ?_ ?_⟩
    · rintro i σ H' hx ⟨v, rfl, rfl⟩
      have hm := hall _ (getD_in hx)
      walk_at "rd"
      refine iteDT hm.1 ?_
      walk_at "rd"
      rw [decide_eq_true hm.2]
      exact iteF ⟨_, rfl, rfl⟩
    · rintro σ H' ⟨v, rfl, rfl⟩
      exact kQ
theorem ok_law {f : Addr} {fd : FuncData} (F : Fun K "law" "law" s_law f fd) (G__law_dist : Cal P w K mg base "_law_dist" 2 ["size", "burnt"] sp_dist) (G_counts : Cal P w K mg base "counts" 3 ["size"] sp_counts) (G__law_cell_at : Cal P w K mg base "_law_cell_at" 1 ["script", "k"] (sp_cell K)) (G_burnt_counts : Cal P w K mg base "burnt_counts" 3 ["size"] sp_burnt_counts) (G__law_numbers : Cal P w K mg base "_law_numbers" 2 ["found", "low", "high"] sp_numbers) : FnOk P w K mg base (L2.CX P w) 4 f fd ["script"] (sp_law K) := by
  refine F.okX sc_law (fun vs H Q E h => ?_) (fun cdv A outer s H vs Q E hr h => ?_)
  · obtain ⟨a, ns, rfl, _⟩ := h
    rfl
  · obtain ⟨a, ns, rfl, hS, hlen, kQ⟩ := h
    refine ⟨_, (pss_cons (ps_set (i := 1) sc_law.nd rfl (Or.inl rfl) (pe_cmpR op_eq (pe_op op_mod (pe_cal G__law_cell_at hr (by decide) takes0 rfl (pa_cons (pv 0) (pa_cons pe_int pa_nil))) pe_int) pe_int (nomark _)))
      (pss_cons (ps_set (i := 2) sc_law.nd rfl (Or.inl rfl) (pe_op op_add pe_int (pe_op op_mod (pe_cal G__law_cell_at hr (by decide) takes0 rfl (pa_cons (pv 0) (pa_cons pe_int pa_nil))) (pe_ix ix_list (pe_lst (pa_cons pe_int (pa_cons pe_int pa_nil))) (pe_callTy call_int1 (by rfl) T.z_int (by decide +kernel) (pa_cons (pv 1) pa_nil)) (fun _ _ => rfl)))))
      (pss_cons (ps_set (i := 3) sc_law.nd rfl (Or.inr rfl) (pe_cal G__law_dist hr (by decide) takes0 rfl (pa_cons (pv 2) (pa_cons (pv 1) pa_nil))))
      (pss_cons (ps_set (i := 4) sc_law.nd rfl (Or.inl rfl) (pe_callB (cr_max rfl) (by rfl) T.z_max (by decide +kernel) (pa_cons (pe_lock (pe_lc (own := [("pile", 5)]) (g := gName 5) (tt := tYes) rfl sc_law.nd (pi_keys (pv 3)) (blkOk_by (own := [("pile", 5)]) (N := ["script", "burnt", "size", "dist", "most", "pile", "due", "again", "found"]) (sc := defScope s_law) (by decide +kernel)) (fun _ _ _ _ _ => pg_name (i := 5) sc_law.nd rfl (Or.inl rfl)) (fun _ _ _ _ _ => pts_nil) (fun _ _ _ _ _ => (pe_dget (hu_of hr) (pv 3) (pv 5) (fun _ _ => rfl))))) pa_nil)))
      (pss_cons (ps_set (i := 6) sc_law.nd rfl (Or.inl rfl) (pe_op op_rep (pe_lst (pa_cons pe_int pa_nil)) (pe_op op_add (pv 4) pe_int)))
      (pss_cons (ps_lock (ps_for (passes_of rfl) rfl (pi_keys (pv 3)) (pg_name (i := 5) sc_law.nd rfl (Or.inl rfl)) (pss_one (ps_asg (pe_op op_add (pe_ix ix_list (pv 6) (pe_dget (hu_of hr) (pv 3) (pv 5) (fun _ _ => rfl)) (fun _ _ => rfl)) pe_int) (pg_sub (pv 6) (pe_dget (hu_of hr) (pv 3) (pv 5) (fun _ _ => rfl)) set_list)))))
      (pss_cons (ps_for (passes_of rfl) rfl (pi_range1 rfl T.z_range (pa_cons pe_int pa_nil)) (pg_name (i := 7) sc_law.nd rfl (Or.inl rfl)) (pss_cons (ps_set (i := 8) sc_law.nd rfl (Or.inl rfl) (pe_cal G_counts hr (by decide) takes0 rfl (pa_cons (pv 2) pa_nil)))
      (Evl.pss_cut (ps_if (pt_val (pv 1)) (pss_one (ps_set (i := 8) sc_law.nd rfl (Or.inl rfl) (pe_cal G_burnt_counts hr (by decide) takes0 rfl (pa_cons (pv 2) pa_nil)))) pss_nil)
      (pss_cons (ps_if (PW.pt (pw_or (pt_not (pt_val (pe_cal G__law_numbers hr (by decide) takes0 rfl (pa_cons (pv 8) (pa_cons pe_int (pa_cons pe_int pa_nil)))))) (pw_or1 (pt_cmpR (op_neD hr.units) (pv 8) (pv 6) (nomark _))))) (pss_one (ps_ret pe_bl)) pss_nil)
      (pss_one (ps_expr (pe_bm PySem.F.plainAttrs_list PySem.F.slot_list_append PySem.F.type_list_append mt_append (pv 8) (pa_cons pe_int pa_nil))))))))
      (pss_one (ps_ret pe_bl))))))))), ?_⟩
    walk_at "rd"
    refine ⟨rfl, ?_⟩
    generalize hb : decide (V.int (cell ns (0 : Int).toNat % 2) = V.int 1) = b
    walk_at "rd"
    refine ⟨(by show 2 ≤ sizeLine; decide), fun q hq => ?_⟩
    walk_at "rd"
    refine .inr ⟨b, rfl, ?_⟩
    refine ⟨q, _, _, V.int (if b = true then 4 else 6), rfl, rfl, SqL.of upd_same, (by cases b <;> rfl), ?_⟩
    walk_at "rd"
    refine ⟨(by show (0 : Int) < _; cases b <;> decide), ?_⟩
    obtain ⟨n, hn, n1, n6⟩ : ∃ n : Nat, 1 + cell ns (Int.toNat 1) % (if b = true then 4 else 6) = (n : Int) ∧ 1 ≤ n ∧ n ≤ (if b = true then 4 else 6) := by
      have hp : (0 : Int) < (if b = true then 4 else 6) := by cases b <;> decide
      have h1 := Int.emod_nonneg (cell ns (Int.toNat 1)) (show (if b = true then (4 : Int) else 6) ≠ 0 by omega)
      have h2 := Int.emod_lt_of_pos (cell ns (Int.toNat 1)) hp
      refine ⟨(1 + cell ns (Int.toNat 1) % (if b = true then 4 else 6)).toNat, by omega, by omega, ?_⟩
      cases b with
      | true =>
        have h2 : cell ns (Int.toNat 1) % 4 < 4 := h2
        have h1 : 0 ≤ cell ns (Int.toNat 1) % 4 := h1
        show (1 + cell ns (Int.toNat 1) % 4).toNat ≤ 4
        omega
      | false =>
        have h2 : cell ns (Int.toNat 1) % 6 < 6 := h2
        have h1 : 0 ≤ cell ns (Int.toNat 1) % 6 := h1
        show (1 + cell ns (Int.toNat 1) % 6).toNat ≤ 6
        omega
    walk_at "rd"
    dsimp only
    rw [hn]
    have hB := allP_len b n6
    refine ⟨n, b, rfl, n1, n6, fun D row H1 s1 fD eD nd hrow => ?_⟩
    have hall : IsAll b n row := ⟨nd, hrow⟩
    have hsz : row.length ≤ 720 := Nat.le_trans (nodup_le nd fun p hp => mem_allP ((hrow p).mp hp)) hB
    clear s1 fD
    walk_at "rd"
    refine ⟨D, _, eD, True.intro, fun od => ?_⟩
    walk_at "rd"
    refine ⟨D, od, rfl, .inr ⟨_, upd_same, fun L hL => ?_⟩⟩
    have nDL : D ≠ L := ne_of_none upd_same hL
    refine lc_keysT upd_same hL (by rw [dkv_len]; omega) (fun j => V.int ((dist b (row.getD j []) : Nat) : Int)) (fun j ks v q2 H2 Q' hk eq s q' => ?_) (fun H3 s3 e3 => ?_)
    · obtain ⟨hj, rfl, _⟩ := dkv_at hk
      rw [tk_kV] at eq
      walk_at "rd"
      refine ⟨D, V.int ((dist b (row.getD j []) : Nat) : Int), rfl, dget_of (f := fdist b) (.inr ⟨od, s _ _ upd_same⟩) (getDl_mem hj) eq, q' _ (Same.refl _)⟩
    refine ⟨s3 _ _ upd_same, ?_⟩
    walk_at "rd"
    have hrl : (List.range (dkv (fdist b) row).length).map (fun j => V.int ((dist b (row.getD j []) : Nat) : Int)) = (row.map fun p => ((dist b p : Nat) : Int)).map V.int := by
      rw [dkv_len, List.map_map]
      refine List.ext_getElem? fun i => ?_
      by_cases hi : i < row.length
      · rw [List.getElem?_map, List.getElem?_range hi, List.getElem?_map, List.getElem?_eq_getElem hi, Option.map_some, Option.map_some, List.getD_eq_getElem?_getD, List.getElem?_eq_getElem hi] <;> rfl
      · rw [List.getElem?_eq_none (by rw [List.length_map, List.length_range]; omega), List.getElem?_eq_none (by rw [List.length_map]; omega)]
    have h0row : upto n ∈ row := (hrow _).mpr (upto_isPv b n1 (by cases b with | true => exact Nat.le_trans n6 (by decide) | false => exact Nat.le_trans n6 (by decide)))
    refine ⟨L, row.map (fun p => ((dist b p : Nat) : Int)), rfl, SqL.of (by rw [upd_ne nDL.symm, e3, hrl]), by rw [List.length_map]; exact List.length_pos_of_mem h0row, fun m hm hmax => ?_⟩
    obtain ⟨pm, hpm, rfl⟩ := List.mem_map.mp hm
    have hlev : Levs b n (dist b pm + 1) := Levs.of_max hall hpm rfl fun q hq => by
      have := hmax _ (List.mem_map_of_mem (f := fun p => ((dist b p : Nat) : Int)) hq)
      omega
    have hmx : ∀ q ∈ row, dist b q ≤ dist b pm := fun q hq => by
      have := hmax _ (List.mem_map_of_mem (f := fun p => ((dist b p : Nat) : Int)) hq)
      omega
    have hm100 := dist_100 ((hrow _).mp hpm).1
    have eD4 : upd H3 D (.dT (dkv (fdist b) row)) D = some (.dT (dkv (fdist b) row)) := upd_same
    generalize upd H3 D (.dT (dkv (fdist b) row)) = H4 at eD4
    generalize dist b pm = m at *
    clear e3 s3 hL nDL eD hrl hm hmax hpm
    walk_at "rd"
    refine ⟨(by show 1 ≤ sizeLine; decide), fun z hz => ?_⟩
    walk_at "rd"
    refine ⟨z, _, _, rfl, rfl, upd_same, by omega, by omega, len_small (by show 1 * _ ≤ _; omega), fun U hU => ?_⟩
    have hrep : (List.replicate ((m : Int) + 1).toNat [V.int 0]).flatten = (tally b (m + 1) (row.take 0)).map V.int := by
      rw [List.take_zero, tally_nil, List.map_replicate, List.flatten_replicate_singleton, show ((m : Int) + 1).toNat = m + 1 by omega]
    have eU : upd (upd H4 z (.lst [V.int 0])) U (.lst (List.replicate ((m : Int) + 1).toNat [V.int 0]).flatten) U = some (.lst ((tally b (m + 1) (row.take 0)).map V.int)) := by rw [upd_same, hrep]
    have eD5 : upd (upd H4 z (.lst [V.int 0])) U (.lst (List.replicate ((m : Int) + 1).toNat [V.int 0]).flatten) D = some (.dT (dkv (fdist b) row)) := upd_old hU (upd_old hz eD4)
    generalize upd (upd H4 z (.lst [V.int 0])) U (.lst (List.replicate ((m : Int) + 1).toNat [V.int 0]).flatten) = H5 at eU eD5
    clear hrep hU hz eD4
    have nUD : U ≠ D := fun x => by rw [x, eD5] at eU; cases eU
    walk_at "rd"
    refine ⟨D, _, eD5, True.intro, fun od2 => ?_⟩
    walk_at "rd"
    refine ⟨D, od2, rfl, .inr ⟨_, upd_same, ?_⟩⟩
    refine for_keysT (fun i σ' H' => ∃ v5, σ' = [some (.ref a), some (.bl b), some (.int (n : Nat)), some (.ref D), some (.int (m : Nat)), v5, some (.ref U), none, none] ∧ H' D = some (.frz od2 (.dT (dkv (fdist b) row))) ∧ H' U = some (.lst ((tally b (m + 1) (row.take i)).map V.int)))
      ⟨none, rfl, upd_same, by rw [upd_ne nUD]; exact eU⟩ (fun i σ' H' _ ⟨_, _, e, _⟩ => e) ?_ ?_
    · rintro i ks v q2 σ' H' hk eq ⟨v5, rfl, eD, eU⟩
      obtain ⟨hj, rfl, _⟩ := dkv_at hk
      rw [tk_kV] at eq
      have hle := hmx _ (getDl_mem hj)
      walk_at "rd"
      refine ⟨D, V.int ((dist b (row.getD i []) : Nat) : Int), rfl, dget_of (f := fdist b) (.inr ⟨od2, eD⟩) (getDl_mem hj) eq, ?_⟩
      walk_at "rd"
      have hat := tally_at (b := b) (m := m + 1) (k := dist b (row.getD i [])) (row := row.take i) (by omega)
      refine ⟨U, _, _, _, rfl, rfl, SqL.of eU, at_of (j := dist b (row.getD i [])) rfl (setInt hat), ?_⟩
      walk_at "rd"
      refine ⟨D, V.int ((dist b (row.getD i []) : Nat) : Int), rfl, dget_of (f := fdist b) (.inr ⟨od2, eD⟩) (getDl_mem hj) eq, ?_⟩
      refine ⟨U, _, _, dist b (row.getD i []), rfl, rfl, eU, ixn_nat (by rw [List.length_map, tally_length]; omega), ?_⟩
      refine ⟨_, rfl, by rw [upd_ne nUD.symm]; exact eD, ?_⟩
      rw [upd_same, take_snocL hj, ← tally_snoc, List.map_set] <;> rfl
    · rintro σ' H' ⟨v5, rfl, eD, eU⟩
      refine ⟨eD, ?_⟩
      have eU2 : upd H' D (.dT (dkv (fdist b) row)) U = some (.lst ((cntL b n (m + 1)).map V.int)) := by
        rw [upd_ne nUD, eU, dkv_len, List.take_length, tally_all hall]
      generalize upd H' D (.dT (dkv (fdist b) row)) = H6 at eU2
      clear eU eD
      have hnum : ∀ x ∈ cntL b n (m + 1), (1 : Int) ≤ x ∧ x ≤ 720 := fun x hx => by
        obtain ⟨j, hj, rfl⟩ := List.mem_map.mp hx
        have h1 := hlev.1 j (List.mem_range.mp hj)
        have h2 := cnt_le n6 j
        omega
      walk_at "rd"
      refine ⟨by decide, by decide, ?_⟩
      refine for_it (itr (H1 := fun _ => none)) (fun i σ' H' => ∃ v7 v8, σ' = [some (.ref a), some (.bl b), some (.int (n : Nat)), some (.ref D), some (.int (m : Nat)), v5, some (.ref U), v7, v8] ∧ H' U = some (.lst ((cntL b n (m + 1)).map V.int)))
        ⟨_, _, rfl, eU2⟩ (fun i σ' H' _ => same_empty H') ?_ ?_
      · rintro i σ' H' hi ⟨v7, v8, rfl, eU⟩
        walk_at "rd"
        refine ⟨n1, (by cases b with | true => exact Nat.le_trans n6 (by decide) | false => exact n6), fun k hk F1 H7 s7 nF1 eF1 => ?_⟩
        walk_at "rd"
        have hUF1 : U ≠ F1 := ne_of_none eU nF1
        have eU7 := s7 _ _ eU
        refine ⟨fun σ' H8 => ∃ F : Addr, σ' = [some (.ref a), some (.bl b), some (.int (n : Nat)), some (.ref D), some (.int (m : Nat)), v5, some (.ref U), some (.int (0 + (i : Int))), some (.ref F)] ∧ H8 U = some (.lst ((cntL b n (m + 1)).map V.int)) ∧ F ≠ U ∧ H8 F = some (.lst ((cntL b n (m + 1)).map V.int)), ?_, ?_⟩
        · walk_at "rd"
          cases b with
          | false =>
            refine iteF ?_
            rw [hk.eq hlev] at eF1
            exact ⟨F1, rfl, eU7, hUF1.symm, eF1⟩
          | true =>
            refine iteT ?_
            walk_at "rd"
            refine ⟨n1, n6, fun k2 hk2 F2 H8 s8 nF2 eF2 => ?_⟩
            rw [hk2.eq hlev] at eF2
            exact ⟨F2, rfl, s8 _ _ eU7, (ne_of_none eU7 nF2).symm, eF2⟩
        rintro σ' H8 ⟨F, rfl, eU8, nFU, eF8⟩
        walk_at "rd"
        refine ⟨F, cntL b n (m + 1), 1, 720, rfl, eF8, hnum, ?_⟩
        walk_at "rd"
        refine ne1E (SqL.of eF8) (SqL.of eU8) ?_
        walk_at "rd"
        refine ⟨F, _, _, rfl, rfl, eF8, len_small' (by rw [List.length_map, cntL_length]; omega), ?_⟩
        refine ⟨_, _, rfl, ?_⟩
        rw [upd_ne nFU.symm]
        exact eU8
      · rintro σ' H' _
        walk_at "rd"
        exact kQ _
end
theorem all_mk {l : PySem.W.OpenLaw} {w : World} {K : PySem.W.Frag} {h : Heap} {mg : Str → Option Value} {fa : Addr}
    {C_FlipError : Addr}
    {C_TooTall : Addr}
    {f__law_turned : Addr} {od__law_turned an__law_turned : Option Addr} {sl__law_turned : Array (Option Value)} {oc__law_turned kV__law_turned dc__law_turned pm__law_turned cd__law_turned ct__law_turned : Value}
    {f__law_dist : Addr} {od__law_dist an__law_dist : Option Addr} {sl__law_dist : Array (Option Value)} {oc__law_dist kV__law_dist dc__law_dist pm__law_dist cd__law_dist ct__law_dist : Value}
    {f_flipped : Addr} {od_flipped an_flipped : Option Addr} {sl_flipped : Array (Option Value)} {oc_flipped kV_flipped dc_flipped pm_flipped cd_flipped ct_flipped : Value}
    {f_burnt_flipped : Addr} {od_burnt_flipped an_burnt_flipped : Option Addr} {sl_burnt_flipped : Array (Option Value)} {oc_burnt_flipped kV_burnt_flipped dc_burnt_flipped pm_burnt_flipped cd_burnt_flipped ct_burnt_flipped : Value}
    {f_layers : Addr} {od_layers an_layers : Option Addr} {sl_layers : Array (Option Value)} {oc_layers kV_layers dc_layers pm_layers cd_layers ct_layers : Value}
    {f_counts : Addr} {od_counts an_counts : Option Addr} {sl_counts : Array (Option Value)} {oc_counts kV_counts dc_counts pm_counts cd_counts ct_counts : Value}
    {f__law_cell_at : Addr} {od__law_cell_at an__law_cell_at : Option Addr} {sl__law_cell_at : Array (Option Value)} {oc__law_cell_at kV__law_cell_at dc__law_cell_at pm__law_cell_at cd__law_cell_at ct__law_cell_at : Value}
    {f_burnt_counts : Addr} {od_burnt_counts an_burnt_counts : Option Addr} {sl_burnt_counts : Array (Option Value)} {oc_burnt_counts kV_burnt_counts dc_burnt_counts pm_burnt_counts cd_burnt_counts ct_burnt_counts : Value}
    {f__law_whole : Addr} {od__law_whole an__law_whole : Option Addr} {sl__law_whole : Array (Option Value)} {oc__law_whole kV__law_whole dc__law_whole pm__law_whole cd__law_whole ct__law_whole : Value}
    {f__law_numbers : Addr} {od__law_numbers an__law_numbers : Option Addr} {sl__law_numbers : Array (Option Value)} {oc__law_numbers kV__law_numbers dc__law_numbers pm__law_numbers cd__law_numbers ct__law_numbers : Value}
    {f_law : Addr} {od_law an_law : Option Addr} {sl_law : Array (Option Value)} {oc_law kV_law dc_law pm_law cd_law ct_law : Value}
    {t_MOST_COUNTED : Tok}
    {t_MOST_BURNT_COUNTED : Tok}
    (X : K.In h) (G : h.Ns mainGlobals mg) (hfa : mg "law" = some (.ref fa))
    (a__law_turned : PySem.W.nsIn K mainGlobals "_law_turned" = some (some (.ref f__law_turned)))
    (l__law_turned : K.lookup f__law_turned = some ⟨oc__law_turned, od__law_turned, .func (PySem.W.fnOf "_law_turned" "_law_turned" (defArgs s__law_turned) (defBody s__law_turned) (defScope s__law_turned) .none kV__law_turned dc__law_turned pm__law_turned an__law_turned cd__law_turned ct__law_turned), sl__law_turned⟩)
    (c__law_turned : PySem.W.codeIn K cd__law_turned "_law_turned" = true)
    (k__law_turned : PySem.W.keepIn K (.ref f__law_turned) = true)
    (a__law_dist : PySem.W.nsIn K mainGlobals "_law_dist" = some (some (.ref f__law_dist)))
    (l__law_dist : K.lookup f__law_dist = some ⟨oc__law_dist, od__law_dist, .func (PySem.W.fnOf "_law_dist" "_law_dist" (defArgs s__law_dist) (defBody s__law_dist) (defScope s__law_dist) .none kV__law_dist dc__law_dist pm__law_dist an__law_dist cd__law_dist ct__law_dist), sl__law_dist⟩)
    (c__law_dist : PySem.W.codeIn K cd__law_dist "_law_dist" = true)
    (k__law_dist : PySem.W.keepIn K (.ref f__law_dist) = true)
    (a_flipped : PySem.W.nsIn K mainGlobals "flipped" = some (some (.ref f_flipped)))
    (l_flipped : K.lookup f_flipped = some ⟨oc_flipped, od_flipped, .func (PySem.W.fnOf "flipped" "flipped" (defArgs s_flipped) (defBody s_flipped) (defScope s_flipped) .none kV_flipped dc_flipped pm_flipped an_flipped cd_flipped ct_flipped), sl_flipped⟩)
    (c_flipped : PySem.W.codeIn K cd_flipped "flipped" = true)
    (k_flipped : PySem.W.keepIn K (.ref f_flipped) = true)
    (a_burnt_flipped : PySem.W.nsIn K mainGlobals "burnt_flipped" = some (some (.ref f_burnt_flipped)))
    (l_burnt_flipped : K.lookup f_burnt_flipped = some ⟨oc_burnt_flipped, od_burnt_flipped, .func (PySem.W.fnOf "burnt_flipped" "burnt_flipped" (defArgs s_burnt_flipped) (defBody s_burnt_flipped) (defScope s_burnt_flipped) .none kV_burnt_flipped dc_burnt_flipped pm_burnt_flipped an_burnt_flipped cd_burnt_flipped ct_burnt_flipped), sl_burnt_flipped⟩)
    (c_burnt_flipped : PySem.W.codeIn K cd_burnt_flipped "burnt_flipped" = true)
    (k_burnt_flipped : PySem.W.keepIn K (.ref f_burnt_flipped) = true)
    (a_layers : PySem.W.nsIn K mainGlobals "layers" = some (some (.ref f_layers)))
    (l_layers : K.lookup f_layers = some ⟨oc_layers, od_layers, .func (PySem.W.fnOf "layers" "layers" (defArgs s_layers) (defBody s_layers) (defScope s_layers) .none kV_layers dc_layers pm_layers an_layers cd_layers ct_layers), sl_layers⟩)
    (c_layers : PySem.W.codeIn K cd_layers "layers" = true)
    (k_layers : PySem.W.keepIn K (.ref f_layers) = true)
    (a_counts : PySem.W.nsIn K mainGlobals "counts" = some (some (.ref f_counts)))
    (l_counts : K.lookup f_counts = some ⟨oc_counts, od_counts, .func (PySem.W.fnOf "counts" "counts" (defArgs s_counts) (defBody s_counts) (defScope s_counts) .none kV_counts dc_counts pm_counts an_counts cd_counts ct_counts), sl_counts⟩)
    (c_counts : PySem.W.codeIn K cd_counts "counts" = true)
    (k_counts : PySem.W.keepIn K (.ref f_counts) = true)
    (a__law_cell_at : PySem.W.nsIn K mainGlobals "_law_cell_at" = some (some (.ref f__law_cell_at)))
    (l__law_cell_at : K.lookup f__law_cell_at = some ⟨oc__law_cell_at, od__law_cell_at, .func (PySem.W.fnOf "_law_cell_at" "_law_cell_at" (defArgs s__law_cell_at) (defBody s__law_cell_at) (defScope s__law_cell_at) .none kV__law_cell_at dc__law_cell_at pm__law_cell_at an__law_cell_at cd__law_cell_at ct__law_cell_at), sl__law_cell_at⟩)
    (c__law_cell_at : PySem.W.codeIn K cd__law_cell_at "_law_cell_at" = true)
    (k__law_cell_at : PySem.W.keepIn K (.ref f__law_cell_at) = true)
    (a_burnt_counts : PySem.W.nsIn K mainGlobals "burnt_counts" = some (some (.ref f_burnt_counts)))
    (l_burnt_counts : K.lookup f_burnt_counts = some ⟨oc_burnt_counts, od_burnt_counts, .func (PySem.W.fnOf "burnt_counts" "burnt_counts" (defArgs s_burnt_counts) (defBody s_burnt_counts) (defScope s_burnt_counts) .none kV_burnt_counts dc_burnt_counts pm_burnt_counts an_burnt_counts cd_burnt_counts ct_burnt_counts), sl_burnt_counts⟩)
    (c_burnt_counts : PySem.W.codeIn K cd_burnt_counts "burnt_counts" = true)
    (k_burnt_counts : PySem.W.keepIn K (.ref f_burnt_counts) = true)
    (a__law_whole : PySem.W.nsIn K mainGlobals "_law_whole" = some (some (.ref f__law_whole)))
    (l__law_whole : K.lookup f__law_whole = some ⟨oc__law_whole, od__law_whole, .func (PySem.W.fnOf "_law_whole" "_law_whole" (defArgs s__law_whole) (defBody s__law_whole) (defScope s__law_whole) .none kV__law_whole dc__law_whole pm__law_whole an__law_whole cd__law_whole ct__law_whole), sl__law_whole⟩)
    (c__law_whole : PySem.W.codeIn K cd__law_whole "_law_whole" = true)
    (k__law_whole : PySem.W.keepIn K (.ref f__law_whole) = true)
    (a__law_numbers : PySem.W.nsIn K mainGlobals "_law_numbers" = some (some (.ref f__law_numbers)))
    (l__law_numbers : K.lookup f__law_numbers = some ⟨oc__law_numbers, od__law_numbers, .func (PySem.W.fnOf "_law_numbers" "_law_numbers" (defArgs s__law_numbers) (defBody s__law_numbers) (defScope s__law_numbers) .none kV__law_numbers dc__law_numbers pm__law_numbers an__law_numbers cd__law_numbers ct__law_numbers), sl__law_numbers⟩)
    (c__law_numbers : PySem.W.codeIn K cd__law_numbers "_law_numbers" = true)
    (k__law_numbers : PySem.W.keepIn K (.ref f__law_numbers) = true)
    (a_law : PySem.W.nsIn K mainGlobals "law" = some (some (.ref f_law)))
    (l_law : K.lookup f_law = some ⟨oc_law, od_law, .func (PySem.W.fnOf "law" "law" (defArgs s_law) (defBody s_law) (defScope s_law) .none kV_law dc_law pm_law an_law cd_law ct_law), sl_law⟩)
    (c_law : PySem.W.codeIn K cd_law "law" = true)
    (k_law : PySem.W.keepIn K (.ref f_law) = true)
    (z_bool : PySem.W.nsIn K mainGlobals "bool" = some none)
    (z_int : PySem.W.nsIn K mainGlobals "int" = some none)
    (z_isinstance : PySem.W.nsIn K mainGlobals "isinstance" = some none)
    (z_len : PySem.W.nsIn K mainGlobals "len" = some none)
    (z_list : PySem.W.nsIn K mainGlobals "list" = some none)
    (z_max : PySem.W.nsIn K mainGlobals "max" = some none)
    (z_range : PySem.W.nsIn K mainGlobals "range" = some none)
    (z_reversed : PySem.W.nsIn K mainGlobals "reversed" = some none)
    (z_tuple : PySem.W.nsIn K mainGlobals "tuple" = some none)
    (m_MOST_COUNTED : PySem.W.nsIn K mainGlobals "MOST_COUNTED" = some (some (.int 6 t_MOST_COUNTED)))
    (m_MOST_BURNT_COUNTED : PySem.W.nsIn K mainGlobals "MOST_BURNT_COUNTED" = some (some (.int 4 t_MOST_BURNT_COUNTED)))
    (g_FlipError : PySem.W.nsIn K mainGlobals "FlipError" = some (some (.ref C_FlipError)))
    (x_FlipError : PySem.W.excIn K C_FlipError [.type "ValueError", .type "Exception", .type "BaseException", .type "object"] "ValueError.__new__" = true)
    (kk_FlipError : PySem.W.keepIn K (.ref C_FlipError) = true)
    (bb_FlipError : PySem.W.subIn K (.ref C_FlipError) (.type "BaseException") = some true)
    (tt_FlipError : PySem.W.typeIn K (.ref C_FlipError) = some (.type "type"))
    (g_TooTall : PySem.W.nsIn K mainGlobals "TooTall" = some (some (.ref C_TooTall)))
    (x_TooTall : PySem.W.excIn K C_TooTall [.type "ValueError", .type "Exception", .type "BaseException", .type "object"] "ValueError.__new__" = true)
    (kk_TooTall : PySem.W.keepIn K (.ref C_TooTall) = true)
    (bb_TooTall : PySem.W.subIn K (.ref C_TooTall) (.type "BaseException") = some true)
    (tt_TooTall : PySem.W.typeIn K (.ref C_TooTall) = some (.type "type")) :
    ∃ fd : FuncData, (∀ (s : Shared) (v : Value), BindsTo s fd ⟨[v], []⟩ [("script", v)]) ∧ ∀ base : Heap, K.In base → base.Ns mainGlobals mg → FnOk l.prog w K mg base (L2.CX l.prog w) 4 fa fd ["script"] (sp_law K) := by
  have e := hfa.symm.trans (PySem.W.mg_of X G a_law)
  cases e
  have T : Txt K mg (⟨C_FlipError, 0, 0, C_TooTall, 0, 0, 0⟩ : ExA) := { dum := True.intro, z_bool := PySem.W.mg_none_of X G z_bool, z_int := PySem.W.mg_none_of X G z_int, z_isinstance := PySem.W.mg_none_of X G z_isinstance, z_len := PySem.W.mg_none_of X G z_len, z_list := PySem.W.mg_none_of X G z_list, z_max := PySem.W.mg_none_of X G z_max, z_range := PySem.W.mg_none_of X G z_range, z_reversed := PySem.W.mg_none_of X G z_reversed, z_tuple := PySem.W.mg_none_of X G z_tuple, m_MOST_COUNTED := ⟨_, PySem.W.mg_of X G m_MOST_COUNTED⟩, m_MOST_BURNT_COUNTED := ⟨_, PySem.W.mg_of X G m_MOST_BURNT_COUNTED⟩, e_FlipError := ⟨PySem.W.mg_of X G g_FlipError, x_FlipError, kk_FlipError, bb_FlipError, tt_FlipError⟩, e_TooTall := ⟨PySem.W.mg_of X G g_TooTall, x_TooTall, kk_TooTall, bb_TooTall, tt_TooTall⟩ }
  have F__law_turned := fun_mk (st := s__law_turned) l__law_turned c__law_turned k__law_turned
  have b__law_turned := F__law_turned.binds (ps := ["pile", "turn", "burnt"]) fun _ _ _ _ _ _ us hl => match us, hl with | [_, _, _], _ => rfl
  have F__law_dist := fun_mk (st := s__law_dist) l__law_dist c__law_dist k__law_dist
  have b__law_dist := F__law_dist.binds (ps := ["size", "burnt"]) fun _ _ _ _ _ _ us hl => match us, hl with | [_, _], _ => rfl
  have F_flipped := fun_mk (st := s_flipped) l_flipped c_flipped k_flipped
  have b_flipped := F_flipped.binds (ps := ["pile", "turn"]) fun _ _ _ _ _ _ us hl => match us, hl with | [_, _], _ => rfl
  have F_burnt_flipped := fun_mk (st := s_burnt_flipped) l_burnt_flipped c_burnt_flipped k_burnt_flipped
  have b_burnt_flipped := F_burnt_flipped.binds (ps := ["pile", "turn"]) fun _ _ _ _ _ _ us hl => match us, hl with | [_, _], _ => rfl
  have F_layers := fun_mk (st := s_layers) l_layers c_layers k_layers
  have b_layers := F_layers.binds (ps := ["size", "burnt"]) fun _ _ _ _ _ _ us hl => match us, hl with | [_, _], _ => rfl
  have F_counts := fun_mk (st := s_counts) l_counts c_counts k_counts
  have b_counts := F_counts.binds (ps := ["size"]) fun _ _ _ _ _ _ us hl => match us, hl with | [_], _ => rfl
  have F__law_cell_at := fun_mk (st := s__law_cell_at) l__law_cell_at c__law_cell_at k__law_cell_at
  have b__law_cell_at := F__law_cell_at.binds (ps := ["script", "k"]) fun _ _ _ _ _ _ us hl => match us, hl with | [_, _], _ => rfl
  have F_burnt_counts := fun_mk (st := s_burnt_counts) l_burnt_counts c_burnt_counts k_burnt_counts
  have b_burnt_counts := F_burnt_counts.binds (ps := ["size"]) fun _ _ _ _ _ _ us hl => match us, hl with | [_], _ => rfl
  have F__law_whole := fun_mk (st := s__law_whole) l__law_whole c__law_whole k__law_whole
  have b__law_whole := F__law_whole.binds (ps := ["found"]) fun _ _ _ _ _ _ us hl => match us, hl with | [_], _ => rfl
  have F__law_numbers := fun_mk (st := s__law_numbers) l__law_numbers c__law_numbers k__law_numbers
  have b__law_numbers := F__law_numbers.binds (ps := ["found", "low", "high"]) fun _ _ _ _ _ _ us hl => match us, hl with | [_, _, _], _ => rfl
  have F_law := fun_mk (st := s_law) l_law c_law k_law
  refine ⟨PySem.W.fnOf "law" "law" (defArgs s_law) (defBody s_law) (defScope s_law) .none kV_law dc_law pm_law an_law cd_law ct_law, fun s v => .of_eq rfl, fun base _ _ => ?_⟩
  have G__law_turned : Cal l.prog w K mg base "_law_turned" 1 ["pile", "turn", "burnt"] sp_turned := ⟨_, _, ok__law_turned T F__law_turned, PySem.W.mg_of X G a__law_turned, k__law_turned, b__law_turned⟩
  have G__law_dist : Cal l.prog w K mg base "_law_dist" 2 ["size", "burnt"] sp_dist := ⟨_, _, ok__law_dist T F__law_dist G__law_turned, PySem.W.mg_of X G a__law_dist, k__law_dist, b__law_dist⟩
  have G_flipped : Cal l.prog w K mg base "flipped" 1 ["pile", "turn"] sp_flipped := ⟨_, _, ok_flipped T F_flipped, PySem.W.mg_of X G a_flipped, k_flipped, b_flipped⟩
  have G_burnt_flipped : Cal l.prog w K mg base "burnt_flipped" 1 ["pile", "turn"] (sp_burnt_flipped K) := ⟨_, _, ok_burnt_flipped T F_burnt_flipped, PySem.W.mg_of X G a_burnt_flipped, k_burnt_flipped, b_burnt_flipped⟩
  have G_layers : Cal l.prog w K mg base "layers" 2 ["size", "burnt"] sp_layers := ⟨_, _, ok_layers T F_layers G_flipped G_burnt_flipped, PySem.W.mg_of X G a_layers, k_layers, b_layers⟩
  have G_counts : Cal l.prog w K mg base "counts" 3 ["size"] sp_counts := ⟨_, _, ok_counts T F_counts G_layers, PySem.W.mg_of X G a_counts, k_counts, b_counts⟩
  have G__law_cell_at : Cal l.prog w K mg base "_law_cell_at" 1 ["script", "k"] (sp_cell K) := ⟨_, _, ok__law_cell_at T F__law_cell_at, PySem.W.mg_of X G a__law_cell_at, k__law_cell_at, b__law_cell_at⟩
  have G_burnt_counts : Cal l.prog w K mg base "burnt_counts" 3 ["size"] sp_burnt_counts := ⟨_, _, ok_burnt_counts T F_burnt_counts G_layers, PySem.W.mg_of X G a_burnt_counts, k_burnt_counts, b_burnt_counts⟩
  have G__law_whole : Cal l.prog w K mg base "_law_whole" 1 ["found"] sp_whole := ⟨_, _, ok__law_whole T F__law_whole, PySem.W.mg_of X G a__law_whole, k__law_whole, b__law_whole⟩
  have G__law_numbers : Cal l.prog w K mg base "_law_numbers" 2 ["found", "low", "high"] sp_numbers := ⟨_, _, ok__law_numbers T F__law_numbers G__law_whole, PySem.W.mg_of X G a__law_numbers, k__law_numbers, b__law_numbers⟩
  exact ok_law T F_law G__law_dist G_counts G__law_cell_at G_burnt_counts G__law_numbers
theorem walk {l : PySem.W.OpenLaw} {q : Program} {loose : List Str} {XP : (Str → Option Value) → Heap → Prop} {YP : World → Heap → Prop} {d : DefRec} {K : Params → PySem.W.Frag} (hn : l.most = some 63) (hdf : d.params.defaults = [])
    (hY : ∀ (w : World) (h : Heap), YP w h → (K w.params).In h)
    (F : ∀ (w : World) (mg : Str → Option Value) (fa : Addr) (h : Heap), (K w.params).In h → h.Ns mainGlobals mg → mg d.name = some (.ref fa) →
      ∃ fd : FuncData, (∀ (s : Shared) (u : Value), BindsTo s fd ⟨[u], []⟩ [("script", u)]) ∧ ∀ base : Heap, (K w.params).In base → base.Ns mainGlobals mg → FnOk l.prog w (K w.params) mg base (L2.CX l.prog w) 4 fa fd ["script"] (sp_law (K w.params))) :
    PySem.W.WalkO q loose XP YP l.row.toRowW d [] (fun f vs => PySem.call f vs) :=
  L2.walk_of (n := 63) (k := 4) (x := "script") (CX := fun w => L2.CX l.prog w) (sp := fun w => sp_law (K w.params)) hn (by decide) hdf ⟨rfl, by decide, by decide⟩ hY F (fun _ _ a ns hl _ hS => ⟨a, ns, rfl, hS, hl, fun _ => rfl⟩) fun _ _ _ _ _ h => by
    obtain ⟨_, _, _, _, _, _, _, _, _, _, _, _, z⟩ := h
    exact z
end Toy
open PySem PySem.W PyProof.Rows in
set_option maxRecDepth 100000 in
set_option maxHeartbeats 0 in
theorem PySem.Challenge.cw_flipstack_k09_counts_holds : PySem.Challenge.rw_flipstack_k09_counts.Holds := by
  w_on; o_law; k_head; (case hw => w_witness2)
  k_fill
  refine Toy.walk (l := PySem.Challenge.rw_flipstack_k09_counts) rfl rfl (fun w h Y => PySem.W.kIn_of Y) ?F
  case F =>
    intro w mg fa h KX G hmg
    refine' Toy.all_mk KX G hmg ?a__law_turned ?l__law_turned ?c__law_turned ?k__law_turned ?a__law_dist ?l__law_dist ?c__law_dist ?k__law_dist ?a_flipped ?l_flipped ?c_flipped ?k_flipped ?a_burnt_flipped ?l_burnt_flipped ?c_burnt_flipped ?k_burnt_flipped ?a_layers ?l_layers ?c_layers ?k_layers ?a_counts ?l_counts ?c_counts ?k_counts ?a__law_cell_at ?l__law_cell_at ?c__law_cell_at ?k__law_cell_at ?a_burnt_counts ?l_burnt_counts ?c_burnt_counts ?k_burnt_counts ?a__law_whole ?l__law_whole ?c__law_whole ?k__law_whole ?a__law_numbers ?l__law_numbers ?c__law_numbers ?k__law_numbers ?a_law ?l_law ?c_law ?k_law ?z_bool ?z_int ?z_isinstance ?z_len ?z_list ?z_max ?z_range ?z_reversed ?z_tuple ?m_MOST_COUNTED ?m_MOST_BURNT_COUNTED ?g_FlipError ?x_FlipError ?kk_FlipError ?bb_FlipError ?tt_FlipError ?g_TooTall ?x_TooTall ?kk_TooTall ?bb_TooTall ?tt_TooTall
    (case g_FlipError => k_is)
    (case g_TooTall => k_is)
    (case a__law_turned => k_is)
    (case l__law_turned => k_is)
    (case c__law_turned => k_is)
    (case k__law_turned => k_is)
    (case a__law_dist => k_is)
    (case l__law_dist => k_is)
    (case c__law_dist => k_is)
    (case k__law_dist => k_is)
    (case a_flipped => k_is)
    (case l_flipped => k_is)
    (case c_flipped => k_is)
    (case k_flipped => k_is)
    (case a_burnt_flipped => k_is)
    (case l_burnt_flipped => k_is)
    (case c_burnt_flipped => k_is)
    (case k_burnt_flipped => k_is)
    (case a_layers => k_is)
    (case l_layers => k_is)
    (case c_layers => k_is)
    (case k_layers => k_is)
    (case a_counts => k_is)
    (case l_counts => k_is)
    (case c_counts => k_is)
    (case k_counts => k_is)
    (case a__law_cell_at => k_is)
    (case l__law_cell_at => k_is)
    (case c__law_cell_at => k_is)
    (case k__law_cell_at => k_is)
    (case a_burnt_counts => k_is)
    (case l_burnt_counts => k_is)
    (case c_burnt_counts => k_is)
    (case k_burnt_counts => k_is)
    (case a__law_whole => k_is)
    (case l__law_whole => k_is)
    (case c__law_whole => k_is)
    (case k__law_whole => k_is)
    (case a__law_numbers => k_is)
    (case l__law_numbers => k_is)
    (case c__law_numbers => k_is)
    (case k__law_numbers => k_is)
    (case a_law => k_is)
    (case l_law => k_is)
    (case c_law => k_is)
    (case k_law => k_is)
    (case z_bool => k_is)
    (case z_int => k_is)
    (case z_isinstance => k_is)
    (case z_len => k_is)
    (case z_list => k_is)
    (case z_max => k_is)
    (case z_range => k_is)
    (case z_reversed => k_is)
    (case z_tuple => k_is)
    (case m_MOST_COUNTED => k_is)
    (case m_MOST_BURNT_COUNTED => k_is)
    (case x_FlipError => first | k_exc | k_is)
    (case kk_FlipError => k_is)
    (case bb_FlipError => first | rfl | k_is)
    (case tt_FlipError => k_is)
    (case x_TooTall => first | k_exc | k_is)
    (case kk_TooTall => k_is)
    (case bb_TooTall => first | rfl | k_is)
    (case tt_TooTall => k_is)
#print axioms PySem.Challenge.cw_flipstack_k09_counts_holds
