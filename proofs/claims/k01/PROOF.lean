import PyProof.Rows.All
import Wide.All
import OpenK.AllK
import Wide.FinOn
import HandS.ForMost
import HandS.ForExc
import HandS.Rev
import HandS.RevRange
import HandS.Conv
import HandS.IsInst
import HandS.Evl
import PySem.Challenge.RW_flipstack_k01_piles_turned
set_option Elab.async false
set_option linter.all false
set_option maxRecDepth 100000
set_option maxHeartbeats 4000000
namespace FL
open PySem PySem.Spec PyProof.Rows L2 RT
section
variable {prog : Program} {w : World} {A : Around} {E : Value → Shared → Prop} {s : Shared}
theorem extend_rev {R : Result → Shared → Prop} {it l : Addr} {xs0 : Array Value} (nh : A.handled = none) (ri : s.heap.IsRevIter it l ((xs0.size : Int) - 1)) (li : s.heap.IsList l xs0) (nli : l ≠ it) (nz : xs0.size ≤ sizeLine)
    (L : Addr) (hLi : L ≠ it) (hLl : L ≠ l) (rv0 : Value) (c0 : Nat) (hL : s.heap.get? L = some { cls := .type "list", data := .seq #[] c0 })
    (kR : ∀ h' tk ac c', (∀ b o, b ≠ L → b ≠ it → s.heap.get? b = some o → h'.get? b = some o) → h'.get? L = some { cls := .type "list", dict := none, data := .seq ac c', slots := #[] } → ItemsOf (fun i v => xs0[xs0.size - 1 - i]? = some v) ac xs0.size → R (.ok (.ret rv0)) { s with heap := h', toks := tk }) :
    wpAny (model prog w) A.in1 (Builtin.List.listExtendWith (.ref L) (.ref it) rv0)
      (fun fin s' => match fin with | .done f => R (.ok f) s' | .again c' => c'.quiet = true ∧ codeAny (model prog w) A c' R s') (fun e s' => R (.error e) s') s := by
  have Wk := (Walks.listRev (prog := prog) (w := w) (A := A.in1) nh it l nli xs0).toS
  have hLf : L ∉ [it, l] := by simp only [List.mem_cons, List.not_mem_nil, or_false, not_or]; exact ⟨hLi, hLl⟩
  have tyI : s.TypeIs (.ref it) "list_reverseiterator" := Heap.IsRevIter.typeIs ri
  have ns1 : Builtin.List.listSameRef (.ref L) (.ref it) = false := by simp [Builtin.List.listSameRef, hLi]
  unfold Builtin.List.listExtendWith
  refine wpAny_bind (wpAny_typeOf tyI ?_)
  rw [if_neg (by rw [ns1]; decide)]
  refine wpAny_bind (wpAny_pyIter_revIter ri ?_)
  refine wpAny_bind (wpAny_holding ?_)
  unfold Builtin.List.listLengthHint
  refine wpAny_bind (wpAny_specialOf tyI nolen_lri ?_)
  show wpAny _ A.in1 (specialOf (Value.ref it) (Str.ofString "__length_hint__") >>= _) _ _ _
  refine wpAny_bind (wpAny_specialOf tyI hint_lri ?_)
  generalize nm : ("list_reverseiterator.__length_hint__" : String) = meth
  wp_delta
  rw [show splitId meth = some ("list_reverseiterator", "__length_hint__") from by subst nm; decide +kernel]
  subst nm
  refine wpAny_bind (wpAny_isInstance (b := true) tyI (by rw [isSubtype_type]; kernel_rfl) ?_)
  refine wpAny_pure ?_
  rw [if_neg (by decide)]
  have n0 : ((xs0.size : Nat) : Int) - 1 - ((0 : Nat) : Int) = (xs0.size : Int) - 1 := by omega
  refine wpAny_pure ⟨plainId_quiet F.plain_extend_loop _, codeAny_extend_loopS Wk nz L hLf rv0 xs0.size 0 _ #[] c0 rfl (Nat.zero_le _) ⟨Nat.zero_le _, by rw [n0]; exact ri, li⟩ hL (ItemsOf.nil _) fun s' ac c' mv hL' acc0 => ?_⟩
  rw [Moved.eq_with mv]
  refine kR s'.heap s'.toks ac c' (fun b o hb hb2 e => mv.heap b o (fun mm => ?_) e) hL' acc0
  rcases List.mem_cons.mp mm with e' | mm
  · exact hb e'
  · exact hb2 (List.mem_singleton.mp mm)
theorem init_rev {R : Result → Shared → Prop} {it l : Addr} {xs0 : Array Value} (nh : A.handled = none) (ri : s.heap.IsRevIter it l ((xs0.size : Int) - 1)) (li : s.heap.IsList l xs0) (nli : l ≠ it) (nz : xs0.size ≤ sizeLine)
    (L : Addr) (hLi : L ≠ it) (hLl : L ≠ l) (hL : s.heap.get? L = some { cls := .type "list", data := .seq #[] })
    (kR : ∀ h' tk ac c', (∀ b o, b ≠ L → b ≠ it → s.heap.get? b = some o → h'.get? b = some o) → h'.get? L = some { cls := .type "list", dict := none, data := .seq ac c', slots := #[] } → ItemsOf (fun i v => xs0[xs0.size - 1 - i]? = some v) ac xs0.size → R (.ok (.ret .none)) { s with heap := h', toks := tk }) :
    wpAny (model prog w) A.in1 (Builtin.«list.__init__» ⟨[.ref L, .ref it], []⟩)
      (fun fin s' => match fin with | .done f => R (.ok f) s' | .again c' => c'.quiet = true ∧ codeAny (model prog w) A c' R s') (fun e s' => R (.error e) s') s := by
  show wpAny _ _ (do let old ← Builtin.List.listItems (.ref L); Builtin.List.listUpdate (.ref L) (fun _ => #[]); letGo old.toList.reverse; Builtin.List.listExtendWith (.ref L) (.ref it) .none) _ _ s
  refine wpAny_bind ?_
  unfold Builtin.List.listItems
  refine wpAny_bind (wpAny_seqItems hL rfl (wpAny_pure ?_))
  show wpAny _ _ (updateSeq L (fun _ => #[]) >>= fun _ => letGo (#[] : Array Value).toList.reverse >>= fun _ => Builtin.List.listExtendWith (.ref L) (.ref it) .none) _ _ s
  refine wpAny_bind (wpAny_updateSeq hL rfl ?_)
  have hL2 := Heap.get?_update_self (Obj.mapSeq (fun _ => (#[] : Array Value))) hL rfl
  have rest0 : ∀ b o, b ≠ L → s.heap.get? b = some o → (s.heap.update L (Obj.mapSeq (fun _ => (#[] : Array Value)))).get? b = some o :=
    fun b o hb e => (Heap.get?_update_other _ _ (Ne.symm hb)).trans e
  refine wpAny_bind (wpAny_letGo ?_)
  obtain ⟨oL, ol1, ol2⟩ := id li
  refine extend_rev (s := { s with heap := s.heap.update L (Obj.mapSeq (fun _ => (#[] : Array Value))) }) nh (ri.at fun o e => rest0 it o (Ne.symm hLi) e) ⟨oL, rest0 l oL (Ne.symm hLl) ol1, ol2⟩ nli nz L hLi hLl .none _ hL2 (fun h' tk ac c' kp hL' acc0 => ?_)
  exact kR h' tk ac c' (fun b o hb hb2 e => kp b o hb hb2 (rest0 b o hb e)) hL' acc0
theorem call_list_rev {Q : Value → Shared → Prop} {it l : Addr} {xs0 : Array Value} (nh : A.handled = none) (ri : s.heap.IsRevIter it l ((xs0.size : Int) - 1)) (li : s.heap.IsList l xs0) (nli : l ≠ it) (nz : xs0.size ≤ sizeLine)
    (kQ : ∀ h' tk ac c', (∀ b o, b ≠ it → s.heap.get? b = some o → h'.get? b = some o) → h'.get? s.heap.objs.size = some { cls := .type "list", dict := none, data := .seq ac c', slots := #[] } → ItemsOf (fun i v => xs0[xs0.size - 1 - i]? = some v) ac xs0.size → Q (.ref s.heap.objs.size) { s with heap := h', toks := tk }) :
    wpAny (model prog w) A (call (.type "list") [.ref it]) Q E s := by
  refine callType_codes (Q₁ := fun ob t1 => ob = .ref s.heap.objs.size ∧ t1 = { s with heap := s.heap.push { cls := .type "list", data := .seq #[] } }) PySem.F.called_list (PySem.F.typeCall_list_1 _) PySem.F.entry_list_init
    (code_list_new _ ⟨rfl, rfl⟩) fun ob t1 q1 => ?_
  obtain ⟨rfl, rfl⟩ := q1
  have hL : (s.heap.push { cls := .type "list", data := .seq #[] }).get? s.heap.objs.size = some { cls := .type "list", data := .seq #[] } := Heap.get?_push_size _ rfl
  obtain ⟨oI, oi1, _⟩ := id ri
  obtain ⟨oL, ol1, _⟩ := id li
  refine ⟨⟨_, hL, rfl⟩, PySem.F.args_list_init_2 _ _, init_rev (A := A.in1) nh (ri.at fun o e => Heap.get?_push_of_some _ e) (li.push _) nli nz _ (Nat.ne_of_gt (Heap.lt_size oi1)) (Nat.ne_of_gt (Heap.lt_size ol1)) hL (fun h' tk ac c' kp hL' acc0 => ?_)⟩
  exact ⟨rfl, kQ h' tk ac c' (fun b o hb e => kp b o (Nat.ne_of_lt (Heap.lt_size e)) hb (Heap.get?_push_of_some _ e)) hL' acc0⟩
end
/-- list(reversed(x)), x a list: a new list -/
def tLstRev (K : PySem.W.Frag) (te : TE) : TE := fun σ H Q => te σ H fun v H1 => ∃ (a : Addr) (xs : List V), v = .ref a ∧ SqL K H1 a xs ∧ ∀ q, H1 q = none → Q (.ref q) (upd H1 q (.lst xs.reverse))
section
variable {X : Cx}
theorem pe_lstRev {e : Expr} {te : TE} {p p2 pos pos2 : Pos} (hc : X.calm = true) (hg : Gl X "list") (mv : X.mg "list" = none) (hg2 : Gl X "reversed") (hm2 : X.mg "reversed" = none) (he : PE X e te)
    (st1 : starEach [e] X.env = (false, eval e X.env) :: starEach [] X.env := by rfl)
    (st2 : starEach [.Call (.Name "reversed" p2) [e] [] pos2] X.env = (false, eval (.Call (.Name "reversed" p2) [e] [] pos2) X.env) :: starEach [] X.env := by rfl) :
    PE X (.Call (.Name "list" p) [.Call (.Name "reversed" p2) [e] [] pos2] [] pos) (tLstRev X.K te) := by
  refine ⟨fun pins s σ H Q I h => ?_⟩
  refine Call_ (ld_blt I hg mv boot_list (PyProof.Rows.callWith_type1 (args_cons (Call_ (ld_blt I hg2 hm2 PyProof.Rows.boot_reversed (PyProof.Rows.callWith_type1 (args_cons (thn (he.run pins s σ H _ I h) fun u0 s1 ⟨v, H1, J1, rr, qq⟩ => args_nil ?_) st1) st1 rfl))) st2) st2 rfl))
  obtain ⟨l0, ys, eV, lq, q⟩ := qq
  subst eV
  obtain rfl : u0 = Value.ref l0 := rr
  obtain ⟨vs0, rV, pl, zL⟩ := J1.list lq
  refine call_reversed_list pl.isList (args_nil ?_)
  have kOld : ∀ b o, s1.heap.get? b = some o → (s1.heap.push (revObj l0 ((vs0.toArray.size : Int) - 1))).get? b = some o := fun b o e => Heap.get?_push_of_some _ e
  have J2 : Inv X pins σ H1 { s1 with heap := s1.heap.push (revObj l0 ((vs0.toArray.size : Int) - 1)) } := J1.kept (t' := s1.toks) kOld
  obtain ⟨fa, fb, fc, fd, fe, ff⟩ := J1.fpOk (H' := H1) (b := s1.heap.objs.size) (Nat.le_refl _) (J1.hok.fresh (Nat.le_refl _))
  have li := pl.isList
  obtain ⟨oL, ol1, _⟩ := id li
  have nli : l0 ≠ s1.heap.objs.size := Nat.ne_of_lt (Heap.lt_size ol1)
  have nz : vs0.toArray.size ≤ sizeLine := by rw [List.size_toArray, ← rV.length]; exact zL
  refine call_list_rev (s := { s1 with heap := s1.heap.push (revObj l0 ((vs0.toArray.size : Int) - 1)) }) (J1.ok.hd hc) ⟨_, Heap.get?_push_size _ rfl, rfl, rfl⟩ (li.push _) nli nz fun h' tk acc c' kp hL' hi => ?_
  have kk : ∀ b o, s1.heap.get? b = some o → h'.get? b = some o := fun b o e => kp b o (Nat.ne_of_lt (Heap.lt_size e)) (kOld b o e)
  have szL : s1.heap.objs.size ≤ (s1.heap.push (revObj l0 ((vs0.toArray.size : Int) - 1))).objs.size := by
    rw [Heap.size_push]
    exact Nat.le_succ _
  refine ⟨.ref (s1.heap.push (revObj l0 ((vs0.toArray.size : Int) - 1))).objs.size, upd H1 (s1.heap.push (revObj l0 ((vs0.toArray.size : Int) - 1))).objs.size (.lst ys.reverse),
    J1.laid (t' := tk) kk szL (show ObjOk X.prog X.w _ _ _ (.lst ys.reverse) from ⟨by rw [List.length_reverse]; exact zL, acc.toList, c', vals_rev rV hi, ?_⟩), rfl, q _ (J1.hok.fresh szL)⟩
  rw [Array.toArray_toList]
  exact hL'
end
end FL
namespace FL
open PySem PySem.Spec PyProof.Rows L2
/-! ## calls of the text's own defs -/
structure Cal (P : Program) (w : World) (K : PySem.W.Frag) (mg : Str → Option Value) (base : Heap) (x : Str) (k : Nat) (ps : List Str) (sp : Sp) : Prop where
  ex : ∃ (f : Addr) (fd : FuncData), FnOk P w K mg base (L2.CX P w) k f fd ps sp ∧ mg x = some (.ref f) ∧ PySem.W.keepIn K (.ref f) = true ∧ Binds K fd ps []
section
variable {X : Cx} {k j : Nat} {ps : List Str} {sp : Sp} {x : Str} {p pos : Pos} {e : Expr} {es : List Expr} {t : TA} {W : WX}
theorem pe_cal (G : Cal X.prog X.w X.K X.mg X.base x j ps sp) (hr : Room k X.A) (hj : j ≤ k) (tk : Takes X W) (hg : Gl X x) (ha : PA X (e :: es) t)
    (hdb : (x == ("__debug__" : Str)) = false := by decide) (he : starEach (e :: es) X.env = (false, eval e X.env) :: starEach es X.env := by rfl) (hpl : (backTo pos (starEach es X.env)).any (·.1) = false := by rfl) :
    PE X (.Call (.Name x p) (e :: es) [] pos) (tCallS sp (WE W) t) := by
  obtain ⟨f, fd, F, hm, hk, hb⟩ := G.ex
  exact pe_callS F (hr.mono hj) hg hm hk hb (fun σ => passAt tk σ) ha hdb he hpl
end
theorem tkOf {P : Program} {w : World} {K : PySem.W.Frag} {mg : Str → Option Value} {base : Heap} {N : List Str} {qual : Str} {scope : Scope} {f : Addr} {cd : Value} {A : Around} {outer : List Env} {s : Shared} {H : Hp} {E : XK} :
    Takes (cxOf (L2.CX P w) P w K mg base N qual scope f cd A outer s H E) (fun cls d _ H => E cls d H) := takes_of rfl rfl rfl rfl
/-! ## heaps -/
theorem Same.at {H H' : Hp} (s : Same H H') {a : Addr} {o : HO} (h : H a = some o) : H' a = some o := s a o h
theorem upd_old {H : Hp} {p a : Addr} {o u : HO} (hp : H p = none) (h : H a = some u) : upd H p o a = some u := by
  rw [upd_ne (ne_of_none h hp)]
  exact h
theorem upd_oth {H : Hp} {p a : Addr} {o u : HO} (hn : a ≠ p) (h : H a = some u) : upd H p o a = some u := by
  rw [upd_ne hn]
  exact h
theorem same_new {H0 H : Hp} {p : Addr} {o : HO} (s : Same H0 H) (hp : H p = none) : Same H0 (upd H p o) := fun b u e => upd_old hp (s b u e)
theorem same_mut {H0 H : Hp} {p : Addr} {o : HO} (s : Same H0 H) (hp : H0 p = none) : Same H0 (upd H p o) := fun b u e => upd_oth (ne_of_none e hp) (s b u e)
theorem ne_old {H : Hp} {a p : Addr} {o : HO} (hp : H p = none) (h : H a = some o) : a ≠ p := ne_of_none h hp
theorem ne_new {H : Hp} {a p : Addr} {o : HO} (hp : H p = none) (h : H a = some o) : p ≠ a := (ne_of_none h hp).symm
/-- a list that is read: sq -/
theorem sq_same {K : PySem.W.Frag} {H H' : Hp} {a : Addr} {xs : List V} (s : Same H H') (h : SqL K H a xs) : SqL K H' a xs := s.seq h
theorem frees {H0 H : Hp} {p : Addr} (s : Same H0 H) (h : H p = none) : H0 p = none := s.free h
theorem len_small {n : Nat} (h : n ≤ 100000) : n ≤ sizeLine := Nat.le_trans h (by decide)
theorem len_small' {n : Nat} (h : n < 100000) : n < sizeLine := Nat.lt_of_lt_of_le h (by decide)
theorem iteDT {c A B : Prop} [Decidable c] (hc : c) (h : A) : if decide c = true then A else B := by
  rw [decide_eq_true hc]
  exact iteT h
theorem iteDF {c A B : Prop} [Decidable c] (hc : ¬ c) (h : B) : if decide c = true then A else B := by
  rw [decide_eq_false hc]
  exact iteF h
theorem iteB {b : Bool} {A B : Prop} (h1 : b = true → A) (h2 : b = false → B) : if b = true then A else B := by
  cases b with
  | true => exact iteT (h1 rfl)
  | false => exact iteF (h2 rfl)
end FL
namespace FL
open PySem PySem.Spec PyProof.Rows L2
/-! ## data: lists of ints, lists of lists of ints -/
def D1 (ns : List Int) : PyData := .list (ns.map PyData.int)
def D2 (nss : List (List Int)) : PyData := .list (nss.map D1)
def DB (bs : List Bool) : PyData := .list (bs.map PyData.bool)
theorem eqv_D1s : ∀ ns ms : List Int, PyData.eqvAll (ns.map PyData.int) (ms.map PyData.int) = decide (ns = ms)
  | [], [] => by simp [PyData.eqvAll]
  | [], _ :: _ => by simp [PyData.eqvAll]
  | _ :: _, [] => by simp [PyData.eqvAll]
  | x :: xs, y :: ys => by
    rw [List.map_cons, List.map_cons, PyData.eqvAll, eqv_D1s xs ys, PyData.eqv]
    by_cases e : x = y
    · by_cases f : xs = ys
      · simp [e, f]
      · simp [e, f]
    · simp [e]
theorem eqv_D1 (ns ms : List Int) : PyData.eqv (D1 ns) (D1 ms) = decide (ns = ms) := by
  unfold D1
  rw [PyData.eqv]
  exact eqv_D1s ns ms
theorem eqv_D2s : ∀ ns ms : List (List Int), PyData.eqvAll (ns.map D1) (ms.map D1) = decide (ns = ms)
  | [], [] => by simp [PyData.eqvAll]
  | [], _ :: _ => by simp [PyData.eqvAll]
  | _ :: _, [] => by simp [PyData.eqvAll]
  | x :: xs, y :: ys => by
    rw [List.map_cons, List.map_cons, PyData.eqvAll, eqv_D2s xs ys, eqv_D1]
    by_cases e : x = y
    · by_cases f : xs = ys
      · simp [e, f]
      · simp [e, f]
    · simp [e]
theorem eqv_D2 (ns ms : List (List Int)) : PyData.eqv (D2 ns) (D2 ms) = decide (ns = ms) := by
  unfold D2
  rw [PyData.eqv]
  exact eqv_D2s ns ms
theorem eqv_DBs : ∀ ns ms : List Bool, PyData.eqvAll (ns.map PyData.bool) (ms.map PyData.bool) = decide (ns = ms)
  | [], [] => by simp [PyData.eqvAll]
  | [], _ :: _ => by simp [PyData.eqvAll]
  | _ :: _, [] => by simp [PyData.eqvAll]
  | x :: xs, y :: ys => by
    rw [List.map_cons, List.map_cons, PyData.eqvAll, eqv_DBs xs ys, PyData.eqv]
    by_cases e : x = y
    · by_cases f : xs = ys
      · simp [e, f]
      · simp [e, f]
    · simp [e]
theorem eqv_DB (ns ms : List Bool) : PyData.eqv (DB ns) (DB ms) = decide (ns = ms) := by
  unfold DB
  rw [PyData.eqv]
  exact eqv_DBs ns ms
theorem lay_D1s : ∀ ns : List Int, PyData.canLayAll0 (ns.map PyData.int) = true
  | [] => rfl
  | x :: xs => by
    rw [List.map_cons, PyData.canLayAll0, lay_D1s xs, PyData.canLay0]
    rfl
theorem depth_D1s : ∀ ns : List Int, PyData.depthAll (ns.map PyData.int) = 0
  | [] => rfl
  | x :: xs => by
    rw [List.map_cons, PyData.depthAll, depth_D1s xs, PyData.depth]
    rfl
theorem shaped_D1 (ns : List Int) : SeqAt.shaped (D1 ns) = true := by
  unfold SeqAt.shaped D1
  rw [PyData.canLay0, PyData.depth, lay_D1s, depth_D1s]
  rfl
theorem lay_DBs : ∀ ns : List Bool, PyData.canLayAll0 (ns.map PyData.bool) = true
  | [] => rfl
  | x :: xs => by
    rw [List.map_cons, PyData.canLayAll0, lay_DBs xs, PyData.canLay0]
    rfl
theorem depth_DBs : ∀ ns : List Bool, PyData.depthAll (ns.map PyData.bool) = 0
  | [] => rfl
  | x :: xs => by
    rw [List.map_cons, PyData.depthAll, depth_DBs xs, PyData.depth]
    rfl
theorem shaped_DB (ns : List Bool) : SeqAt.shaped (DB ns) = true := by
  unfold SeqAt.shaped DB
  rw [PyData.canLay0, PyData.depth, lay_DBs, depth_DBs]
  rfl
theorem lay_D2s : ∀ ns : List (List Int), PyData.canLayAll0 (ns.map D1) = true
  | [] => rfl
  | x :: xs => by
    rw [List.map_cons, PyData.canLayAll0, lay_D2s xs]
    unfold D1
    rw [PyData.canLay0, lay_D1s]
    rfl
theorem depth_D2s : ∀ ns : List (List Int), PyData.depthAll (ns.map D1) ≤ 1
  | [] => Nat.zero_le _
  | x :: xs => by
    have h := depth_D2s xs
    rw [List.map_cons, PyData.depthAll]
    unfold D1
    rw [PyData.depth, depth_D1s]
    unfold D1 at h
    omega
theorem shaped_D2 (ns : List (List Int)) : SeqAt.shaped (D2 ns) = true := by
  unfold SeqAt.shaped D2
  rw [PyData.canLay0, PyData.depth, lay_D2s]
  have h := depth_D2s ns
  simp
  omega
section
variable {K : PySem.W.Frag} {H : Hp}
theorem dp_ints : ∀ ns : List Int, DpAll K H (ns.map V.int) (ns.map PyData.int)
  | [] => .nil
  | x :: xs => .cons (.int x) (dp_ints xs)
theorem dp_bls : ∀ ns : List Bool, DpAll K H (ns.map V.bl) (ns.map PyData.bool)
  | [] => .nil
  | x :: xs => .cons (.bl x) (dp_bls xs)
theorem dp_D1 {p : Addr} {ns : List Int} (h : SqL K H p (ns.map V.int)) : Dp K H (.ref p) (D1 ns) := .lst h (dp_ints ns)
theorem dp_DB {p : Addr} {ns : List Bool} (h : SqL K H p (ns.map V.bl)) : Dp K H (.ref p) (DB ns) := .lst h (dp_bls ns)
/-- a list of lists: the items one by one -/
theorem dp_D2 {p : Addr} {vs : List V} {nss : List (List Int)} (h : SqL K H p vs) (a : DpAll K H vs (nss.map D1)) : Dp K H (.ref p) (D2 nss) := .lst h a
theorem eq1 {Q : VK} {p q : Addr} {ns ms : List Int} (h1 : SqL K H p (ns.map V.int)) (h2 : SqL K H q (ms.map V.int)) (k : Q (.bl (decide (ns = ms))) H) : rEqD K (.ref p) (.ref q) H Q :=
  ⟨_, _, dp_D1 h1, dp_D1 h2, shaped_D1 _, shaped_D1 _, by rw [eqv_D1]; exact k⟩
theorem ne1 {Q : VK} {p q : Addr} {ns ms : List Int} (h1 : SqL K H p (ns.map V.int)) (h2 : SqL K H q (ms.map V.int)) (k : Q (.bl (!decide (ns = ms))) H) : rNeD K (.ref p) (.ref q) H Q :=
  ⟨_, _, dp_D1 h1, dp_D1 h2, shaped_D1 _, shaped_D1 _, by rw [eqv_D1]; exact k⟩
theorem eqB {Q : VK} {p q : Addr} {ns ms : List Bool} (h1 : SqL K H p (ns.map V.bl)) (h2 : SqL K H q (ms.map V.bl)) (k : Q (.bl (decide (ns = ms))) H) : rEqD K (.ref p) (.ref q) H Q :=
  ⟨_, _, dp_DB h1, dp_DB h2, shaped_DB _, shaped_DB _, by rw [eqv_DB]; exact k⟩
theorem neB {Q : VK} {p q : Addr} {ns ms : List Bool} (h1 : SqL K H p (ns.map V.bl)) (h2 : SqL K H q (ms.map V.bl)) (k : Q (.bl (!decide (ns = ms))) H) : rNeD K (.ref p) (.ref q) H Q :=
  ⟨_, _, dp_DB h1, dp_DB h2, shaped_DB _, shaped_DB _, by rw [eqv_DB]; exact k⟩
theorem eq2 {Q : VK} {p q : Addr} {vs us : List V} {ns ms : List (List Int)} (h1 : SqL K H p vs) (a1 : DpAll K H vs (ns.map D1)) (h2 : SqL K H q us) (a2 : DpAll K H us (ms.map D1)) (k : Q (.bl (decide (ns = ms))) H) : rEqD K (.ref p) (.ref q) H Q :=
  ⟨_, _, dp_D2 h1 a1, dp_D2 h2 a2, shaped_D2 _, shaped_D2 _, by rw [eqv_D2]; exact k⟩
theorem ne2 {Q : VK} {p q : Addr} {vs us : List V} {ns ms : List (List Int)} (h1 : SqL K H p vs) (a1 : DpAll K H vs (ns.map D1)) (h2 : SqL K H q us) (a2 : DpAll K H us (ms.map D1)) (k : Q (.bl (!decide (ns = ms))) H) : rNeD K (.ref p) (.ref q) H Q :=
  ⟨_, _, dp_D2 h1 a1, dp_D2 h2 a2, shaped_D2 _, shaped_D2 _, by rw [eqv_D2]; exact k⟩
end
section
variable {K : PySem.W.Frag} {H : Hp}
theorem eq1E {Q : VK} {p q : Addr} {ns : List Int} (h1 : SqL K H p (ns.map V.int)) (h2 : SqL K H q (ns.map V.int)) (k : Q (.bl true) H) : rEqD K (.ref p) (.ref q) H Q := eq1 h1 h2 (by rw [decide_eq_true rfl]; exact k)
theorem ne1E {Q : VK} {p q : Addr} {ns : List Int} (h1 : SqL K H p (ns.map V.int)) (h2 : SqL K H q (ns.map V.int)) (k : Q (.bl false) H) : rNeD K (.ref p) (.ref q) H Q := ne1 h1 h2 (by rw [decide_eq_true rfl]; exact k)
theorem eq2E {Q : VK} {p q : Addr} {vs us : List V} {ns : List (List Int)} (h1 : SqL K H p vs) (a1 : DpAll K H vs (ns.map D1)) (h2 : SqL K H q us) (a2 : DpAll K H us (ns.map D1)) (k : Q (.bl true) H) : rEqD K (.ref p) (.ref q) H Q :=
  eq2 h1 a1 h2 a2 (by rw [decide_eq_true rfl]; exact k)
theorem ne2E {Q : VK} {p q : Addr} {vs us : List V} {ns : List (List Int)} (h1 : SqL K H p vs) (a1 : DpAll K H vs (ns.map D1)) (h2 : SqL K H q us) (a2 : DpAll K H us (ns.map D1)) (k : Q (.bl false) H) : rNeD K (.ref p) (.ref q) H Q :=
  ne2 h1 a1 h2 a2 (by rw [decide_eq_true rfl]; exact k)
end
/-! ## the ints 1 .. n -/
def upto (n : Nat) : List Int := (List.range n).map fun (i : Nat) => 1 + (i : Int)
theorem upto_length (n : Nat) : (upto n).length = n := by unfold upto; rw [List.length_map, List.length_range]
theorem rgV_upto (n : Nat) (b : Int) (e : b = (n : Int) + 1) : rgV 1 b = (upto n).map V.int := by
  unfold rgV upto
  have e2 : (b - 1).toNat = n := by omega
  rw [e2, List.map_map]
  rfl
theorem upto_get {n i : Nat} (h : i < n) : (upto n)[i]? = some (1 + (i : Int)) := by
  unfold upto
  rw [List.getElem?_map, List.getElem?_range h]
  rfl
theorem upto_sorted (n : Nat) : (upto n).Pairwise (· ≤ ·) := by
  unfold upto
  rw [List.pairwise_map]
  exact List.Pairwise.imp (fun h => by omega) List.pairwise_lt_range
theorem upto_lt (n : Nat) : (upto n).Pairwise (· < ·) := by
  unfold upto
  rw [List.pairwise_map]
  exact List.Pairwise.imp (fun h => by omega) List.pairwise_lt_range
theorem upto_nodup (n : Nat) : (upto n).Nodup := List.Pairwise.imp (fun h => by omega) (upto_lt n)
theorem upto_mem {n : Nat} {x : Int} : x ∈ upto n ↔ 1 ≤ x ∧ x ≤ n := by
  unfold upto
  rw [List.mem_map]
  constructor
  · rintro ⟨i, hi, rfl⟩
    have := List.mem_range.mp hi
    omega
  · rintro ⟨h1, h2⟩
    exact ⟨(x - 1).toNat, List.mem_range.mpr (by omega), by omega⟩
theorem sorted_unique : ∀ {l m : List Int}, l.Perm m → l.Pairwise (· ≤ ·) → m.Pairwise (· ≤ ·) → l = m
  | [], m, p, _, _ => (List.Perm.nil_eq p)
  | x :: l, [], p, _, _ => absurd p.length_eq (by simp)
  | x :: l, y :: m, p, h1, h2 => by
    have hx := List.pairwise_cons.mp h1
    have hy := List.pairwise_cons.mp h2
    have e : x = y := by
      have mx : x ∈ y :: m := p.mem_iff.mp List.mem_cons_self
      have my : y ∈ x :: l := p.mem_iff.mpr List.mem_cons_self
      rcases List.mem_cons.mp mx with e | mx
      · exact e
      · rcases List.mem_cons.mp my with e | my
        · exact e.symm
        · have a := hy.1 x mx
          have b := hx.1 y my
          omega
    subst e
    rw [sorted_unique (List.Perm.cons_inv p) hx.2 hy.2]
/-- a plain pile -/
def IsPile (ns : List Int) : Prop := 1 ≤ ns.length ∧ ns.length ≤ 12 ∧ ns.Perm (upto ns.length)
theorem IsPile.mem {ns : List Int} (h : IsPile ns) {x : Int} : x ∈ ns ↔ 1 ≤ x ∧ x ≤ ns.length := h.2.2.mem_iff.trans upto_mem
theorem IsPile.nodup {ns : List Int} (h : IsPile ns) : ns.Nodup := h.2.2.nodup_iff.mpr (upto_nodup _)
def iabs (x : Int) : Int := if x < 0 then -x else x
theorem iabs_neg (x : Int) : iabs (-x) = iabs x := by
  unfold iabs
  split <;> split <;> omega
theorem iabs_nn (x : Int) : 0 ≤ iabs x := by
  unfold iabs
  split <;> omega
theorem iabs_cases (x : Int) : x = iabs x ∨ x = -iabs x := by
  unfold iabs
  split <;> omega
theorem iabs_pos {x : Int} (h : 0 ≤ x) : iabs x = x := by
  unfold iabs
  split <;> omega
def IsBurnt (ns : List Int) : Prop := IsPile (ns.map iabs)
theorem IsPile.abs {ns : List Int} (h : IsPile ns) : ns.map iabs = ns := by
  have : ns.map iabs = ns.map id := List.map_congr_left fun x hx => iabs_pos (by have := (h.mem.mp hx).1; omega)
  rw [this, List.map_id]
theorem signed_burnt {ns bs : List Int} (h : IsPile ns) (e : bs.map iabs = ns.map iabs) : IsBurnt bs := by
  unfold IsBurnt
  rw [e, h.abs]
  exact h
theorem burnt_len {bs : List Int} (h : IsBurnt bs) : 1 ≤ bs.length ∧ bs.length ≤ 12 := by
  have h1 := h.1
  have h2 := h.2.1
  rw [List.length_map] at h1 h2
  exact ⟨h1, h2⟩
theorem burnt_mem {bs : List Int} (h : IsBurnt bs) {x : Int} (hx : x ∈ bs) : -12 ≤ x ∧ x ≤ 12 := by
  have := (IsPile.mem h).mp (List.mem_map_of_mem (f := iabs) hx)
  have h2 := (burnt_len h).2
  rw [List.length_map] at this
  have := iabs_cases x
  omega
/-- what an exception's class is -/
structure Exn (K : PySem.W.Frag) (mg : Str → Option Value) (x : Str) (C : Addr) : Prop where
  g : mg x = some (.ref C)
  x : PySem.W.excIn K C [.type "ValueError", .type "Exception", .type "BaseException", .type "object"] "ValueError.__new__" = true
  k : PySem.W.keepIn K (.ref C) = true
  b : PySem.W.subIn K (.ref C) (.type "BaseException") = some true
  t : PySem.W.typeIn K (.ref C) = some (.type "type")
structure ExA where
  FlipError : Addr
  NoPile : Addr
  NoTurn : Addr
  TooTall : Addr
  NoBack : Addr
  BadLine : Addr
/-- a promise's answer: a new list of ints -/
def RL (H : Hp) (ns : List Int) (Q : VK) : Prop := ∀ (p : Addr) (H' : Hp), Same H H' → H p = none → H' p = some (.lst (ns.map V.int)) → Q (.ref p) H'
/-- an answer that is a value, or nothing -/
def RV (H : Hp) (v : V) (Q : VK) : Prop := ∀ H' : Hp, Same H H' → Q v H'
def RX (H : Hp) (C : Addr) (E : XK) : Prop := ∀ H' : Hp, Same H H' → E (.ref C) none H'
theorem getInt {ns : List Int} {i : Nat} {y : V} (h : (ns.map V.int)[i]? = some y) : ∃ z, ns[i]? = some z ∧ y = V.int z ∧ i < ns.length := by
  rw [List.getElem?_map] at h
  cases e : ns[i]? with
  | none =>
    rw [e] at h
    cases h
  | some z =>
    rw [e] at h
    exact ⟨z, rfl, (Option.some.inj h).symm, (List.getElem?_eq_some_iff.mp e).1⟩
theorem setInt {ns : List Int} {i : Nat} {z : Int} (h : ns[i]? = some z) : (ns.map V.int)[i]? = some (V.int z) := by
  rw [List.getElem?_map, h]
  rfl
def pflip (ns : List Int) (k : Nat) : List Int := (ns.take k).reverse ++ ns.drop k
theorem pflip_length (ns : List Int) (k : Nat) : (pflip ns k).length = ns.length := by
  unfold pflip
  rw [List.length_append, List.length_reverse, List.length_take, List.length_drop]
  omega
theorem pflip_perm (ns : List Int) (k : Nat) : (pflip ns k).Perm ns := by
  unfold pflip
  exact ((List.reverse_perm _).append_right _).trans (by rw [List.take_append_drop])
def bflip (ns : List Int) (k : Nat) : List Int := (ns.take k).reverse.map (fun x => -x) ++ ns.drop k
theorem bflip_length (ns : List Int) (k : Nat) : (bflip ns k).length = ns.length := by
  unfold bflip
  rw [List.length_append, List.length_map, List.length_reverse, List.length_take, List.length_drop]
  omega
theorem signed_len {ns bs : List Int} (e : bs.map iabs = ns.map iabs) : bs.length = ns.length := by
  have := congrArg List.length e
  rw [List.length_map, List.length_map] at this
  exact this
theorem pflip_pile {ns : List Int} {k : Nat} (h : IsPile ns) : IsPile (pflip ns k) := by
  unfold IsPile
  rw [pflip_length]
  exact ⟨h.1, h.2.1, (pflip_perm ns k).trans h.2.2⟩
theorem bflip_abs (ns : List Int) (k : Nat) : (bflip ns k).map iabs = pflip (ns.map iabs) k := by
  have e : (ns.take k).reverse.map (iabs ∘ fun x => -x) = (ns.take k).reverse.map iabs := List.map_congr_left fun x _ => iabs_neg x
  unfold bflip pflip
  rw [List.map_append, List.map_map, e, List.map_reverse, List.map_take, List.map_drop]
theorem bflip_burnt {ns : List Int} {k : Nat} (h : IsBurnt ns) : IsBurnt (bflip ns k) := by
  unfold IsBurnt
  rw [bflip_abs]
  exact pflip_pile h
def sp_law (K : PySem.W.Frag) : Sp := fun vs H Q _ => ∃ (a : Addr) (ns : List Int), vs = [.ref a] ∧ SqL K H a (ns.map V.int) ∧ ns.length ≤ 63 ∧ ∀ H', Q (.bl true) H'
theorem arg3 {a z : V} {x y : Int} (e : x = y) : [a, V.int x, z] = [a, V.int y, z] := by rw [e]
end FL
namespace FL
open PySem PySem.Spec PyProof.Rows L2
open Evl (given given_yes given_no given_len)
/-! ## what is walked, over a heap of which a part stays -/
structure ItIs (J : It) (n : Nat) (y : Nat → V) (H1 : Hp) : Prop where
  go : ∀ i H, Same H1 H → i < n → J.go i H
  stop : ∀ i H, Same H1 H → n ≤ i → J.stop i H
  yld : ∀ i H x H', Same H1 H → i < n → J.yld i H x H' → H' = H ∧ x = y i
theorem itl {K : PySem.W.Frag} {a : Addr} {xs : List V} {H1 : Hp} (h : SqL K H1 a xs) : ItIs (Itl K a) xs.length (fun i => xs.getD i .non) H1 where
  go := fun i H s hi => ⟨xs, xs[i], s.seq h, by simp [hi]⟩
  stop := fun i H s hi => ⟨xs, s.seq h, hi⟩
  yld := fun i H x H' s hi y => ⟨y.1, by
    have e := y.2 xs (s.seq h)
    rw [List.getD_eq_getElem?_getD, e]
    rfl⟩
theorem itl_ints {K : PySem.W.Frag} {a : Addr} {ns : List Int} {H1 : Hp} (h : SqL K H1 a (ns.map V.int)) : ItIs (Itl K a) ns.length (fun i => V.int (ns.getD i 0)) H1 where
  go := fun i H s hi => ⟨_, V.int ns[i], s.seq h, by simp [hi]⟩
  stop := fun i H s hi => ⟨_, s.seq h, by rw [List.length_map]; exact hi⟩
  yld := fun i H x H' s hi y => ⟨y.1, by
    have e := y.2 _ (s.seq h)
    rw [List.getElem?_map, List.getElem?_eq_getElem hi] at e
    rw [List.getD_eq_getElem?_getD, List.getElem?_eq_getElem hi]
    exact (Option.some.inj e).symm⟩
theorem itv_ints {K : PySem.W.Frag} {a : Addr} {ns : List Int} {m : Nat} {H1 : Hp} (h : SqL K H1 a (ns.map V.int)) (hm : m = ns.length) : ItIs (Itv K a m) ns.length (fun i => V.int (ns.reverse.getD i 0)) H1 where
  go := fun i H s hi => ⟨by omega, _, V.int (ns[ns.length - 1 - i]'(by omega)), s.seq h, by
    rw [hm]
    simp [show ns.length - 1 - i < ns.length by omega]⟩
  stop := fun i H s hi => by
    show m ≤ i
    omega
  yld := fun i H x H' s hi y => ⟨y.1, by
    have hj : ns.length - 1 - i < ns.length := by omega
    have e := y.2 _ (s.seq h)
    rw [hm, List.getElem?_map, List.getElem?_eq_getElem hj] at e
    rw [List.getD_eq_getElem?_getD, List.getElem?_reverse hi, List.getElem?_eq_getElem hj]
    exact (Option.some.inj e).symm⟩
theorem itr {lo : Int} {n : Nat} {H1 : Hp} : ItIs (Itr lo n) n (fun i => .int (lo + (i : Nat))) H1 where
  go := fun i H s hi => hi
  stop := fun i H s hi => hi
  yld := fun i H x H' s hi y => y
theorem itc {lo c : Int} {n : Nat} {H1 : Hp} : ItIs (Itc lo c n) n (fun i => .int (lo + (i : Nat) * c)) H1 where
  go := fun i H s hi => hi
  stop := fun i H s hi => hi
  yld := fun i H x H' s hi y => y
/-- a for -/
theorem for_it {J : It} {n : Nat} {y : Nat → V} {H1 : Hp} {g : TG} {tb : TS} {D : Ends} {σ : L2.St} {H : Hp} (I : ItIs J n y H1) (Pv : Nat → L2.St → Hp → Prop) (h0 : Pv 0 σ H) (hS : ∀ i σ H, Pv i σ H → Same H1 H)
    (hs : ∀ i σ H, i < n → Pv i σ H → g (y i) σ H fun σ2 H2 => tb { D with nx := Pv (i + 1), ct := Pv (i + 1), bk := D.nx } σ2 H2) (hd : ∀ σ H, Pv n σ H → D.nx σ H) :
    ∃ W : Nat → Nat → L2.St → Hp → Prop, (∃ m, W 0 m σ H) ∧ ∀ i m σ H, W i m σ H →
      (J.stop i H ∧ D.nx σ H) ∨ (J.go i H ∧ ∃ N : L2.St → Hp → Prop, (∀ σ' H', N σ' H' → ∃ m', m' < m ∧ W (i + 1) m' σ' H') ∧ ∀ v H', J.yld i H v H' → g v σ H' fun σ2 H2 => tb { D with nx := N, ct := N, bk := D.nx } σ2 H2) := by
  refine ⟨fun i m σ H => m = n - i ∧ i ≤ n ∧ Pv i σ H, ⟨n, rfl, Nat.zero_le _, h0⟩, ?_⟩
  rintro i m σ H ⟨rfl, hi, p⟩
  by_cases hlt : i < n
  · refine .inr ⟨I.go i H (hS _ _ _ p) hlt, Pv (i + 1), fun σ' H' p' => ⟨n - (i + 1), by omega, rfl, hlt, p'⟩, fun v H' yy => ?_⟩
    obtain ⟨e, e2⟩ := I.yld i H v H' (hS _ _ _ p) hlt yy
    subst e e2
    exact hs i σ _ hlt p
  · have e : i = n := by omega
    subst e
    exact .inl ⟨I.stop _ H (hS _ _ _ p) (Nat.le_refl _), hd σ H p⟩
theorem given_all (n : Nat) (v : Nat → V) : given n (fun _ => true) v = (List.range n).map v := by
  unfold given
  rw [List.filter_eq_self.mpr (fun _ _ => rfl)]
theorem given_ints (ns : List Int) (f : Int → Int) : given ns.length (fun _ => true) (fun j => V.int (f (ns.getD j 0))) = (ns.map f).map V.int := by
  rw [given_all]
  apply List.ext_getElem?
  intro i
  by_cases h : i < ns.length
  · rw [List.getElem?_map, List.getElem?_range h, List.getElem?_map, List.getElem?_map, List.getElem?_eq_getElem h, Option.map_some, Option.map_some, Option.map_some, List.getD_eq_getElem?_getD, List.getElem?_eq_getElem h]
    rfl
  · rw [List.getElem?_eq_none (by rw [List.length_map, List.length_range]; omega), List.getElem?_eq_none (by rw [List.length_map, List.length_map]; omega)]
/-- a comprehension, its name in slot k -/
theorem lc_it {J : It} {n : Nat} {y : Nat → V} {H1 Hs : Hp} {k : Nat} {tt : TT} {te : TE} {σ : L2.St} {D : Addr} {Qd : Hp → Prop} (I : ItIs J n y H1) (hD : Hs D = none) (s0 : Same H1 Hs) (hn : n ≤ 100000) (b : Nat → Bool) (r : Nat → V)
    (ht : ∀ (j : Nat) (H : Hp) (Q : Bool → Hp → Prop), j < n → Same Hs H → (∀ H', Same H H' → Q (b j) H') → tt (σ.set k (some (y j))) H Q)
    (he : ∀ (j : Nat) (H : Hp) (Q : VK), j < n → b j = true → Same Hs H → (∀ H', Same H H' → Q (r j) H') → te (σ.set k (some (y j))) H Q)
    (hd : ∀ H', Same Hs H' → H' D = some (.lst (given n b r)) → Qd H') :
    ∃ W : Nat → Nat → Hp → Prop, (∃ m, W 0 m (upd Hs D (.lst []))) ∧ ∀ i m H, W i m H →
      (J.stop i H ∧ Qd H) ∨ (J.go i H ∧ ∃ Nx : Hp → Prop, (∀ H', Nx H' → ∃ m', m' < m ∧ W (i + 1) m' H') ∧ ∀ x H', J.yld i H x H' → gName k x (wipe σ [k]) H' fun σ2 H2 => wipe σ2 [k] = wipe σ [k] ∧ tt σ2 H2 fun b H3 =>
        if b = true then te σ2 H3 fun y H4 => ∃ acc, H4 D = some (.lst acc) ∧ acc.length < sizeLine ∧ Nx (upd H4 D (.lst (acc ++ [y]))) else Nx H3) := by
  have ew : ∀ v : Option V, (wipe σ [k]).set k v = σ.set k v := fun v => by
    show (σ.set k none).set k v = σ.set k v
    rw [List.set_set]
  refine ⟨fun i m H => m = n - i ∧ i ≤ n ∧ Same Hs H ∧ H D = some (.lst (given i b r)), ⟨n, rfl, Nat.zero_le _, same_new (Same.refl _) hD, upd_same⟩, ?_⟩
  rintro i m H ⟨rfl, hi, sH, hL⟩
  by_cases hlt : i < n
  · refine .inr ⟨I.go i H (s0.trans sH) hlt, fun H' => Same Hs H' ∧ H' D = some (.lst (given (i + 1) b r)), fun H' p' => ⟨n - (i + 1), by omega, rfl, hlt, p'⟩, fun v H' yy => ?_⟩
    obtain ⟨e, e2⟩ := I.yld i H v H' (s0.trans sH) hlt yy
    subst e e2
    unfold gName
    rw [ew]
    refine ⟨by show (σ.set k (some (y i))).set k none = σ.set k none; rw [List.set_set], ht i H' _ hlt sH fun H2 s2 => ?_⟩
    cases hb : b i with
    | true =>
      refine iteT (he i H2 _ hlt hb (sH.trans s2) fun H3 s3 => ?_)
      refine ⟨given i b r, s3 _ _ (s2 _ _ hL), len_small' (by have := given_len i b r; omega), same_mut ((sH.trans s2).trans s3) hD, ?_⟩
      rw [given_yes hb]
      exact upd_same
    | false =>
      refine iteF ⟨sH.trans s2, ?_⟩
      rw [given_no hb]
      exact s2 _ _ hL
  · have e : i = n := by omega
    subst e
    exact .inl ⟨I.stop _ H (s0.trans sH) (Nat.le_refl _), hd H sH hL⟩
/-- no test -/
theorem lc_yes {J : It} {n : Nat} {y : Nat → V} {H1 Hs : Hp} {k : Nat} {te : TE} {σ : L2.St} {D : Addr} {Qd : Hp → Prop} (I : ItIs J n y H1) (hD : Hs D = none) (s0 : Same H1 Hs) (hn : n ≤ 100000) (r : Nat → V)
    (he : ∀ (j : Nat) (H : Hp) (Q : VK), j < n → Same Hs H → (∀ H', Same H H' → Q (r j) H') → te (σ.set k (some (y j))) H Q)
    (hd : ∀ H', Same Hs H' → H' D = some (.lst ((List.range n).map r)) → Qd H') :
    ∃ W : Nat → Nat → Hp → Prop, (∃ m, W 0 m (upd Hs D (.lst []))) ∧ ∀ i m H, W i m H →
      (J.stop i H ∧ Qd H) ∨ (J.go i H ∧ ∃ Nx : Hp → Prop, (∀ H', Nx H' → ∃ m', m' < m ∧ W (i + 1) m' H') ∧ ∀ x H', J.yld i H x H' → gName k x (wipe σ [k]) H' fun σ2 H2 => wipe σ2 [k] = wipe σ [k] ∧ tYes σ2 H2 fun b H3 =>
        if b = true then te σ2 H3 fun y H4 => ∃ acc, H4 D = some (.lst acc) ∧ acc.length < sizeLine ∧ Nx (upd H4 D (.lst (acc ++ [y]))) else Nx H3) :=
  lc_it I hD s0 hn (fun _ => true) r (fun _ H Q _ _ q => q H (Same.refl H)) (fun j H Q h1 _ h2 q => he j H Q h1 h2 q) fun H' s h => hd H' s (by rw [← given_all]; exact h)
theorem map_ints (ns : List Int) (f : Int → Int) : (List.range ns.length).map (fun j => V.int (f (ns.getD j 0))) = (ns.map f).map V.int := by
  rw [← given_all]
  exact given_ints ns f
theorem itv_rev {K : PySem.W.Frag} {a : Addr} {ns : List Int} {m : Nat} {H1 : Hp} (h : SqL K H1 a (ns.map V.int)) (hm : m = ns.length) : ItIs (Itv K a m) ns.reverse.length (fun i => V.int (ns.reverse.getD i 0)) H1 := by
  rw [List.length_reverse]
  exact itv_ints h hm
/-- an element of each int of a list, the ints of the answer told -/
theorem lc_map {J : It} {ns : List Int} {H1 Hs : Hp} {k : Nat} {te : TE} {σ : L2.St} {D : Addr} {Qd : Hp → Prop} (I : ItIs J ns.length (fun i => V.int (ns.getD i 0)) H1) (hD : Hs D = none) (s0 : Same H1 Hs) (hn : ns.length ≤ 100000) (f : Int → Int)
    (he : ∀ (x : Int) (H : Hp) (Q : VK), x ∈ ns → Same Hs H → (∀ H', Same H H' → Q (.int (f x)) H') → te (σ.set k (some (.int x))) H Q)
    (hd : ∀ H', Same Hs H' → H' D = some (.lst ((ns.map f).map V.int)) → Qd H') :
    ∃ W : Nat → Nat → Hp → Prop, (∃ m, W 0 m (upd Hs D (.lst []))) ∧ ∀ i m H, W i m H →
      (J.stop i H ∧ Qd H) ∨ (J.go i H ∧ ∃ Nx : Hp → Prop, (∀ H', Nx H' → ∃ m', m' < m ∧ W (i + 1) m' H') ∧ ∀ x H', J.yld i H x H' → gName k x (wipe σ [k]) H' fun σ2 H2 => wipe σ2 [k] = wipe σ [k] ∧ tYes σ2 H2 fun b H3 =>
        if b = true then te σ2 H3 fun y H4 => ∃ acc, H4 D = some (.lst acc) ∧ acc.length < sizeLine ∧ Nx (upd H4 D (.lst (acc ++ [y]))) else Nx H3) :=
  lc_yes I hD s0 hn (fun j => V.int (f (ns.getD j 0))) (fun j H Q hj s q => he _ H Q (by
    rw [List.getD_eq_getElem?_getD, List.getElem?_eq_getElem hj]
    exact List.getElem_mem hj) s q) fun H' s e => hd H' s (by rw [← map_ints]; exact e)
/-- slices of lists -/
theorem cut_to (xs : List V) (k : Nat) : cutV xs none (some (k : Int)) = xs.take k := by
  unfold cutV
  rw [HT.sIx_nat, HT.sIx_none, List.drop_zero, Nat.sub_zero]
  rcases Nat.le_total k xs.length with h | h
  · rw [Nat.min_eq_left h]
  · rw [Nat.min_eq_right h, List.take_of_length_le (Nat.le_refl _), List.take_of_length_le h]
theorem cut_from (xs : List V) (k : Nat) : cutV xs (some (k : Int)) none = xs.drop k := by
  unfold cutV
  rw [HT.sIx_nat, HT.sIx_none]
  rcases Nat.le_total k xs.length with h | h
  · rw [Nat.min_eq_left h, List.take_of_length_le (by rw [List.length_drop]; omega)]
  · rw [Nat.min_eq_right h, List.drop_of_length_le (Nat.le_refl _), List.drop_of_length_le h]
    simp
theorem cut_mid (xs : List V) (j k : Nat) : cutV xs (some (j : Int)) (some (k : Int)) = (xs.drop j).take (k - j) := by
  unfold cutV
  rw [HT.sIx_nat, HT.sIx_nat]
  rcases Nat.le_total j xs.length with h | h
  · rw [Nat.min_eq_left h]
    rcases Nat.le_total k xs.length with h2 | h2
    · rw [Nat.min_eq_left h2]
    · rw [Nat.min_eq_right h2, List.take_of_length_le (by rw [List.length_drop] <;> omega), List.take_of_length_le (by rw [List.length_drop]; omega)]
  · rw [Nat.min_eq_right h, List.drop_of_length_le (Nat.le_refl _), List.drop_of_length_le h]
    simp
theorem cutI_to (ns : List Int) (k : Nat) : cutV (ns.map V.int) none (some (k : Int)) = (ns.take k).map V.int := by rw [cut_to, List.map_take]
theorem cutI_from (ns : List Int) (k : Nat) : cutV (ns.map V.int) (some (k : Int)) none = (ns.drop k).map V.int := by rw [cut_from, List.map_drop]
theorem take_snoc {ts : List Int} {i : Nat} (h : i < ts.length) : ts.take (i + 1) = ts.take i ++ [ts.getD i 0] := by
  rw [List.take_succ, List.getElem?_eq_getElem h, List.getD_eq_getElem?_getD, List.getElem?_eq_getElem h]
  rfl
theorem getD_in {ns : List Int} {i : Nat} (h : i < ns.length) : ns.getD i 0 ∈ ns := by
  rw [List.getD_eq_getElem?_getD, List.getElem?_eq_getElem h]
  exact List.getElem_mem h
theorem arg2 {a : V} {x y : Int} (e : x = y) : [a, V.int x] = [a, V.int y] := by rw [e]
theorem erase_map {α β : Type} (f : α → β) : ∀ (l : List α) (k : Nat), (l.map f).eraseIdx k = (l.eraseIdx k).map f
  | [], _ => by simp
  | x :: l, 0 => by simp
  | x :: l, k + 1 => by
    rw [List.map_cons, List.eraseIdx_cons_succ, List.eraseIdx_cons_succ, List.map_cons, erase_map f l k]
theorem erase_perm {α : Type} : ∀ (l : List α) (k : Nat) (h : k < l.length), (l[k] :: l.eraseIdx k).Perm l
  | x :: l, 0, h => List.Perm.refl _
  | x :: l, k + 1, h => by
    rw [List.eraseIdx_cons_succ, List.getElem_cons_succ]
    exact (List.Perm.swap _ _ _).trans ((erase_perm l k (by simpa using h)).cons x)
def tflip (b : Bool) (ns : List Int) (k : Nat) : List Int := if b = true then bflip ns k else pflip ns k
theorem tflip_length (b : Bool) (ns : List Int) (k : Nat) : (tflip b ns k).length = ns.length := by
  unfold tflip
  split
  · exact bflip_length ns k
  · exact pflip_length ns k
theorem turned_eq (b : Bool) (ns : List Int) (k : Nat) (h : k ≤ ns.length) :
    (List.range k).map (fun j => V.int ((if b = true then -1 else 1) * ns.getD (k - 1 - j) 0)) ++ (ns.drop k).map V.int = (tflip b ns k).map V.int := by
  have key : ∀ f : Int → Int, (∀ x, (if b = true then -1 else 1) * x = f x) → (List.range k).map (fun j => V.int ((if b = true then -1 else 1) * ns.getD (k - 1 - j) 0)) = ((ns.take k).reverse.map f).map V.int := by
    intro f hf
    apply List.ext_getElem?
    intro i
    by_cases hi : i < k
    · have h1 : k - 1 - i < ns.length := by omega
      rw [List.getElem?_map, List.getElem?_range hi, List.getElem?_map, List.getElem?_map, List.getElem?_reverse (by rw [List.length_take]; omega), List.length_take, Nat.min_eq_left h, List.getElem?_take, if_pos (show k - 1 - i < k by omega),
        List.getElem?_eq_getElem h1, Option.map_some, Option.map_some, Option.map_some, List.getD_eq_getElem?_getD, List.getElem?_eq_getElem h1, hf]
      rfl
    · rw [List.getElem?_eq_none (by rw [List.length_map, List.length_range]; omega), List.getElem?_eq_none (by rw [List.length_map, List.length_map, List.length_reverse, List.length_take]; omega)]
  unfold tflip
  cases b with
  | true =>
    rw [key (fun x => -x) (fun x => by simp), if_pos rfl, bflip, List.map_append]
  | false =>
    rw [key (fun x => x) (fun x => by simp), if_neg Bool.false_ne_true, pflip, List.map_append, List.map_id']
/-- rules whose reading names the written part, for elements of comprehensions -/
def rLen (K : PySem.W.Frag) : List V → Hp → VK → Prop := fun xs H Q => ∃ p ys, xs = [.ref p] ∧ (SqL K H p ys ∨ SqT K H p ys) ∧ Q (.int ys.length) H
theorem call_len {X : Cx} : CallR X (.builtin "len") (rLen X.K) := call_len_seq
end FL
/-! ### words of the walk: ne (two addresses apart), hp (what stands at an address), free, same, sq (a list read), rd (reading on) -/
local macro_rules | `(tactic| walk_at "hp") => `(tactic| first
  | assumption
  | exact L2.upd_same
  | (refine FL.upd_old (by assumption) ?_; walk_at "hp")
  | (refine FL.upd_oth (by walk_at "ne") ?_; walk_at "hp")
  | (refine FL.Same.at (by assumption) ?_; walk_at "hp"))
local macro_rules | `(tactic| walk_at "ne") => `(tactic| first
  | assumption
  | exact Ne.symm (by assumption)
  | (refine L2.ne_of_none ?_ (by assumption); walk_at "hp")
  | (refine Ne.symm (L2.ne_of_none ?_ (by assumption)); walk_at "hp"))
local macro_rules | `(tactic| walk_at "free") => `(tactic| first
  | assumption
  | (refine FL.frees ?_ (by assumption); walk_at "same"))
local macro_rules | `(tactic| walk_at "same") => `(tactic| first
  | assumption
  | exact L2.Same.refl _
  | (refine FL.same_new ?_ (by assumption); walk_at "same")
  | (refine FL.same_mut ?_ ?_; (walk_at "same"); (walk_at "free"))
  | (refine L2.Same.trans ?_ (by assumption); walk_at "same"))
local macro_rules | `(tactic| walk_at "sq") => `(tactic| first
  | assumption
  | exact L2.SqL.of (by walk_at "hp")
  | (refine FL.sq_same ?_ (by assumption); walk_at "same"))
local macro_rules | `(tactic| walk_at "rd") => `(tactic| repeat (first
  | refine ⟨_, rfl, ?_⟩
  | refine ⟨_, _, rfl, rfl, ?_⟩
  | refine ⟨.inl ⟨rfl, _, by walk_at "sq"⟩, ?_⟩
  | refine ⟨_, _, rfl, .inl (by walk_at "sq"), ?_⟩
  | refine ⟨(by show (0 : Int) < _; decide), ?_⟩
  | refine ⟨⟨by decide, by decide⟩, ?_⟩
  | refine ⟨_, _, _, rfl, (by walk_at "sq"), (by first | decide | omega), ?_⟩))
namespace FL
open PySem L2
def sp_ask_pile (C : Addr) : Sp := fun vs H Q E => ∃ (a : Addr) (ns : List Int), vs = [.ref a] ∧ H a = some (.lst (ns.map V.int)) ∧ ns.length < 64 ∧ (IsPile ns → RV H .non Q) ∧ (¬ IsPile ns → RX H C E)
def sp_ask_burnt (C : Addr) : Sp := fun vs H Q E => ∃ (a : Addr) (ns : List Int), vs = [.ref a] ∧ H a = some (.lst (ns.map V.int)) ∧ ns.length < 64 ∧ (IsBurnt ns → RV H .non Q) ∧ (¬ IsBurnt ns → RX H C E)
def OkT (n : Nat) (t : Int) : Prop := 1 ≤ t ∧ t ≤ n
def sp_ask_turn (C : Addr) : Sp := fun vs H Q E => ∃ (a : Addr) (ns : List Int) (t : Int), vs = [.ref a, .int t] ∧ H a = some (.lst (ns.map V.int)) ∧ (OkT ns.length t → Q .non H) ∧ (¬ OkT ns.length t → E (.ref C) none H)
def sp_flipped : Sp := fun vs H Q E => ∃ (a : Addr) (ns : List Int) (k : Nat), vs = [.ref a, .int (k : Nat)] ∧ H a = some (.lst (ns.map V.int)) ∧ ns.length ≤ 1000 ∧ RL H (pflip ns k) Q
def sp_burnt_flipped (K : PySem.W.Frag) : Sp := fun vs H Q E => ∃ (a : Addr) (ns : List Int) (k : Nat), vs = [.ref a, .int (k : Nat)] ∧ H a = some (.lst (ns.map V.int)) ∧ ns.length ≤ 1000 ∧ RL H (bflip ns k) Q
def pbehind (ns ts : List Int) : List Int := ts.foldl (fun p t => pflip p t.toNat) ns
theorem pbehind_length (ns ts : List Int) : (pbehind ns ts).length = ns.length := by
  unfold pbehind
  induction ts generalizing ns with
  | nil => rfl
  | cons t ts ih => rw [List.foldl_cons, ih, pflip_length]
theorem pbehind_snoc (ns ts : List Int) (t : Int) : pbehind ns (ts ++ [t]) = pflip (pbehind ns ts) t.toNat := by
  unfold pbehind
  rw [List.foldl_append]
  rfl
theorem pbehind_ok {ns : List Int} (h : IsPile ns) (ts : List Int) : IsPile (pbehind ns ts) := by
  unfold pbehind
  induction ts generalizing ns with
  | nil => exact h
  | cons t ts ih =>
    rw [List.foldl_cons]
    exact ih (pflip_pile h)
def sp_behind (C Ct : Addr) : Sp := fun vs H Q E => ∃ (a b : Addr) (ns ts : List Int), vs = [.ref a, .ref b] ∧ H a = some (.lst (ns.map V.int)) ∧ H b = some (.lst (ts.map V.int)) ∧ ns.length < 64 ∧
  (¬ IsPile ns → RX H C E) ∧ (IsPile ns → (∀ t ∈ ts, OkT ns.length t) → RL H (pbehind ns ts) Q) ∧ (IsPile ns → ¬ (∀ t ∈ ts, OkT ns.length t) → RX H Ct E)
def pbbehind (ns ts : List Int) : List Int := ts.foldl (fun p t => bflip p t.toNat) ns
theorem pbbehind_length (ns ts : List Int) : (pbbehind ns ts).length = ns.length := by
  unfold pbbehind
  induction ts generalizing ns with
  | nil => rfl
  | cons t ts ih => rw [List.foldl_cons, ih, bflip_length]
theorem pbbehind_snoc (ns ts : List Int) (t : Int) : pbbehind ns (ts ++ [t]) = bflip (pbbehind ns ts) t.toNat := by
  unfold pbbehind
  rw [List.foldl_append]
  rfl
theorem pbbehind_ok {ns : List Int} (h : IsBurnt ns) (ts : List Int) : IsBurnt (pbbehind ns ts) := by
  unfold pbbehind
  induction ts generalizing ns with
  | nil => exact h
  | cons t ts ih =>
    rw [List.foldl_cons]
    exact ih (bflip_burnt h)
def sp_burnt_behind (C Ct : Addr) : Sp := fun vs H Q E => ∃ (a b : Addr) (ns ts : List Int), vs = [.ref a, .ref b] ∧ H a = some (.lst (ns.map V.int)) ∧ H b = some (.lst (ts.map V.int)) ∧ ns.length < 64 ∧
  (¬ IsBurnt ns → RX H C E) ∧ (IsBurnt ns → (∀ t ∈ ts, OkT ns.length t) → RL H (pbbehind ns ts) Q) ∧ (IsBurnt ns → ¬ (∀ t ∈ ts, OkT ns.length t) → RX H Ct E)
def cell (ns : List Int) (k : Nat) : Int := ns.getD k 0
def sp_cell (K : PySem.W.Frag) : Sp := fun vs H Q _ => ∃ (a : Addr) (ns : List Int) (t : Int), vs = [.ref a, .int t] ∧ SqL K H a (ns.map V.int) ∧ 0 ≤ t ∧ Q (.int (cell ns t.toNat)) H
def sp_whole : Sp := fun vs H Q _ => ∃ (i : Int), vs = [.int i] ∧ Q (.bl true) H
def sp_pile (K : PySem.W.Frag) : Sp := fun vs H Q _ => ∃ (a : Addr) (ns : List Int) (t m : Nat), vs = [.ref a, .int (t : Nat), .int (m : Nat)] ∧ SqL K H a (ns.map V.int) ∧ 1 ≤ m ∧ m ≤ 12 ∧
  ∀ pl : List Int, IsPile pl → pl.length ≤ m → RL H pl Q
def sp__law_burnt : Sp := fun vs H Q _ => ∃ (a : Addr) (ns : List Int) (m : Int), vs = [.ref a, .int m] ∧ H a = some (.lst (ns.map V.int)) ∧ ns.length ≤ 1000 ∧
  ∀ bs : List Int, bs.map iabs = ns.map iabs → RL H bs Q
def sp_turned : Sp := fun vs H Q _ => ∃ (a : Addr) (ns : List Int) (k : Nat) (b : Bool), vs = [.ref a, .int (k : Nat), .bl b] ∧ H a = some (.lst (ns.map V.int)) ∧ k ≤ ns.length ∧ ns.length ≤ 1000 ∧ RL H (tflip b ns k) Q
def sp_numbers : Sp := fun vs H Q _ => ∃ (a : Addr) (ns : List Int) (lo hi : Int), vs = [.ref a, .int lo, .int hi] ∧ H a = some (.lst (ns.map V.int)) ∧ (∀ x ∈ ns, lo ≤ x ∧ x ≤ hi) ∧ Q (.bl true) H
end FL
namespace Toy
open PySem L2 FL
def top (i : Nat) : Stmt := PySem.Challenge.pw_flipstack_k01_piles_turned.main.body.getD i (.Pass ⟨0, 0, 0, 0⟩)
abbrev s_ask_pile : Stmt := top 6
theorem sc_ask_pile : FnScope ["pile"] ["pile"] (defScope s_ask_pile) := ⟨rfl, rfl, rfl, by decide +kernel, rfl, by decide +kernel, by decide +kernel⟩
abbrev s_ask_burnt : Stmt := top 7
theorem sc_ask_burnt : FnScope ["pile", "cake"] ["pile"] (defScope s_ask_burnt) := ⟨rfl, rfl, rfl, by decide +kernel, rfl, by decide +kernel, by decide +kernel⟩
abbrev s_ask_turn : Stmt := top 8
theorem sc_ask_turn : FnScope ["pile", "turn"] ["pile", "turn"] (defScope s_ask_turn) := ⟨rfl, rfl, rfl, by decide +kernel, rfl, by decide +kernel, by decide +kernel⟩
abbrev s_flipped : Stmt := top 9
theorem sc_flipped : FnScope ["pile", "turn"] ["pile", "turn"] (defScope s_flipped) := ⟨rfl, rfl, rfl, by decide +kernel, rfl, by decide +kernel, by decide +kernel⟩
abbrev s_burnt_flipped : Stmt := top 10
theorem sc_burnt_flipped : FnScope ["pile", "turn", "cake"] ["pile", "turn"] (defScope s_burnt_flipped) := ⟨rfl, rfl, rfl, by decide +kernel, rfl, by decide +kernel, by decide +kernel⟩
abbrev s_behind : Stmt := top 11
theorem sc_behind : FnScope ["pile", "turns", "turn"] ["pile", "turns"] (defScope s_behind) := ⟨rfl, rfl, rfl, by decide +kernel, rfl, by decide +kernel, by decide +kernel⟩
abbrev s_burnt_behind : Stmt := top 12
theorem sc_burnt_behind : FnScope ["pile", "turns", "turn"] ["pile", "turns"] (defScope s_burnt_behind) := ⟨rfl, rfl, rfl, by decide +kernel, rfl, by decide +kernel, by decide +kernel⟩
abbrev s__law_cell_at : Stmt := top 14
theorem sc__law_cell_at : FnScope ["script", "k"] ["script", "k"] (defScope s__law_cell_at) := ⟨rfl, rfl, rfl, by decide +kernel, rfl, by decide +kernel, by decide +kernel⟩
abbrev s__law_whole : Stmt := top 15
theorem sc__law_whole : FnScope ["found"] ["found"] (defScope s__law_whole) := ⟨rfl, rfl, rfl, by decide +kernel, rfl, by decide +kernel, by decide +kernel⟩
abbrev s__law_pile : Stmt := top 16
theorem sc__law_pile : FnScope ["script", "at", "most", "size", "left", "pile", "k"] ["script", "at", "most"] (defScope s__law_pile) := ⟨rfl, rfl, rfl, by decide +kernel, rfl, by decide +kernel, by decide +kernel⟩
abbrev s__law_burnt : Stmt := top 17
theorem sc__law_burnt : FnScope ["pile", "cell", "found", "cake"] ["pile", "cell"] (defScope s__law_burnt) := ⟨rfl, rfl, rfl, by decide +kernel, rfl, by decide +kernel, by decide +kernel⟩
abbrev s__law_turned : Stmt := top 18
theorem sc__law_turned : FnScope ["pile", "turn", "burnt", "sign", "k"] ["pile", "turn", "burnt"] (defScope s__law_turned) := ⟨rfl, rfl, rfl, by decide +kernel, rfl, by decide +kernel, by decide +kernel⟩
abbrev s__law_numbers : Stmt := top 19
theorem sc__law_numbers : FnScope ["found", "low", "high", "number"] ["found", "low", "high"] (defScope s__law_numbers) := ⟨rfl, rfl, rfl, by decide +kernel, rfl, by decide +kernel, by decide +kernel⟩
abbrev s_law : Stmt := top 20
theorem sc_law : FnScope ["script", "plain", "burnt", "many", "turns", "k", "due", "turn", "again", "handed", "found", "one"] ["script"] (defScope s_law) := ⟨rfl, rfl, rfl, by decide +kernel, rfl, by decide +kernel, by decide +kernel⟩
structure Txt (K : PySem.W.Frag) (mg : Str → Option Value) (c : ExA) : Prop where
  dum : True
  z_abs : mg "abs" = none
  z_bool : mg "bool" = none
  z_int : mg "int" = none
  z_isinstance : mg "isinstance" = none
  z_len : mg "len" = none
  z_list : mg "list" = none
  z_range : mg "range" = none
  z_reversed : mg "reversed" = none
  z_sorted : mg "sorted" = none
  m_MOST : ∃ t, mg "MOST" = some (.int 12 t)
  e_FlipError : Exn K mg "FlipError" c.FlipError
  e_NoPile : Exn K mg "NoPile" c.NoPile
  e_NoTurn : Exn K mg "NoTurn" c.NoTurn
section
variable {P : Program} {w : World} {K : PySem.W.Frag} {mg : Str → Option Value} {base : Heap} {c : ExA} (T : Txt K mg c)
include T
theorem ok_ask_pile {f : Addr} {fd : FuncData} (F : Fun K "ask_pile" "ask_pile" s_ask_pile f fd) : FnOk P w K mg base (L2.CX P w) 1 f fd ["pile"] (sp_ask_pile c.NoPile) := by
  refine F.okX sc_ask_pile (fun vs H Q E h => ?_) (fun cdv A outer s H vs Q E hr h => ?_)
  · obtain ⟨a, ns, rfl, _⟩ := h
    rfl
  · obtain ⟨a, ns, rfl, ha, h64, kQ, kE⟩ := h
    obtain ⟨tM, m_MOST⟩ := T.m_MOST
    refine ⟨_, (pss_one (ps_if (PW.pt (pw_or (pt_cmpR op_lt (pe_callB call_len_seq (by rfl) T.z_len PySem.boot_len (pa_cons (pv 0) pa_nil)) pe_int (nomark _)) (pw_or (pt_cmpR op_gt (pe_callB call_len_seq (by rfl) T.z_len PySem.boot_len (pa_cons (pv 0) pa_nil)) (pe_glob (v := .int 12) rfl m_MOST ⟨_, rfl⟩) (nomark _)) (pw_or1 (pt_cmpR (op_neD hr.units) (pe_callB cr_sorted (by rfl) T.z_sorted (by decide +kernel) (pa_cons (pv 0) pa_nil)) (pe_listRg rfl rfl T.z_list (prg_2 rfl T.z_range pe_int (pe_op op_add (pe_callB call_len_seq (by rfl) T.z_len PySem.boot_len (pa_cons (pv 0) pa_nil)) pe_int))) (nomark _)))))) (pss_one (ps_raise rfl tkOf (pmk_own PySem.F.excBase_ValueError T.e_NoPile.x T.e_NoPile.g T.e_NoPile.k (raises_own T.e_NoPile.b T.e_NoPile.t) rfl))) pss_nil)), ?_⟩
    walk_at "rd"
    by_cases h1 : ns.length < 1
    · refine iteDT (by rw [List.length_map]; omega) (iteT ?_)
      exact kE (fun h => absurd h.1 (by omega)) H (Same.refl H)
    refine iteDF (by rw [List.length_map]; omega) ?_
    walk_at "rd"
    by_cases h2 : 12 < ns.length
    · refine iteDT (by rw [List.length_map]; omega) (iteT ?_)
      exact kE (fun h => absurd h.2.1 (by omega)) H (Same.refl H)
    refine iteDF (by rw [List.length_map]; omega) ?_
    walk_at "rd"
    refine ⟨a, ns, rfl, by walk_at "sq", h64, fun ns' p hp hs np => ?_⟩
    walk_at "rd"
    refine ⟨RgOk.of_le (by omega) (by rw [List.length_map]; omega) (by omega) (by rw [List.length_map]; omega), fun q hq => ?_⟩
    rw [rgV_upto ns.length _ (by rw [List.length_map])]
    refine ne1 (ns := ns') (ms := upto ns.length) (by walk_at "sq") (by walk_at "sq") ?_
    by_cases e : ns' = upto ns.length
    · refine ⟨_, rfl, ?_⟩
      rw [decide_eq_true e]
      refine iteF ?_
      exact kQ ⟨by omega, by omega, by rw [← e]; exact hp.symm⟩ _ (by walk_at "same")
    · refine ⟨_, rfl, ?_⟩
      rw [decide_eq_false e]
      refine iteT ?_
      exact kE (fun h => e (sorted_unique (hp.trans h.2.2) hs (upto_sorted _))) _ (by walk_at "same")
theorem ok_ask_burnt {f : Addr} {fd : FuncData} (F : Fun K "ask_burnt" "ask_burnt" s_ask_burnt f fd) (G_ask_pile : Cal P w K mg base "ask_pile" 1 ["pile"] (sp_ask_pile c.NoPile)) : FnOk P w K mg base (L2.CX P w) 2 f fd ["pile"] (sp_ask_burnt c.NoPile) := by
  refine F.okX sc_ask_burnt (fun vs H Q E h => ?_) (fun cdv A outer s H vs Q E hr h => ?_)
  · obtain ⟨a, ns, rfl, _⟩ := h
    rfl
  · obtain ⟨a, ns, rfl, ha, h64, kQ, kE⟩ := h
    refine ⟨_, (pss_one (ps_expr (pe_cal G_ask_pile hr (by decide) tkOf rfl (pa_cons (pe_lc (own := [("cake", 1)]) (g := gName 1) (tt := tYes) rfl sc_ask_burnt.nd (pi_list (pv 0)) (blkOk_by (own := [("cake", 1)]) (N := ["pile", "cake"]) (sc := defScope s_ask_burnt) (by decide +kernel)) (fun _ _ _ _ _ => pg_name (i := 1) sc_ask_burnt.nd rfl (Or.inl rfl)) (fun _ _ _ _ _ => pts_nil) (fun _ _ _ _ _ => (pe_callB call_abs (by rfl) T.z_abs (by decide +kernel) (pa_cons (pv 1) pa_nil)))) pa_nil)))), ?_⟩
    walk_at "rd"
    refine ⟨⟨_, by walk_at "sq"⟩, fun D hD => lc_map (itl_ints (K := K) (ns := ns) (SqL.of ha)) hD (Same.refl _) (by omega) iabs (fun x H' Q' _ s q => ?_) (fun H2 s2 e2 => ?_)⟩
    · walk_at "rd"
      exact q _ (Same.refl _)
    · exact ⟨D, ns.map iabs, rfl, e2, by rw [List.length_map]; exact h64, fun h H3 s3 => kQ h H3 (s2.trans s3), fun h H3 s3 => kE h H3 (s2.trans s3)⟩
theorem ok_ask_turn {f : Addr} {fd : FuncData} (F : Fun K "ask_turn" "ask_turn" s_ask_turn f fd) : FnOk P w K mg base (L2.CX P w) 1 f fd ["pile", "turn"] (sp_ask_turn c.NoTurn) := by
  refine F.okX sc_ask_turn (fun vs H Q E h => ?_) (fun cdv A outer s H vs Q E hr h => ?_)
  · obtain ⟨a, ns, t, rfl, _⟩ := h
    rfl
  · obtain ⟨a, ns, t, rfl, ha, kQ, kE⟩ := h
    refine ⟨_, (pss_one (ps_if (PW.pt (pw_or (pt_cmpR op_lt (pv 1) pe_int (nomark _)) (pw_or1 (pt_cmpR op_gt (pv 1) (pe_callB call_len_seq (by rfl) T.z_len PySem.boot_len (pa_cons (pv 0) pa_nil)) (nomark _))))) (pss_one (ps_raise rfl tkOf (pmk_own PySem.F.excBase_ValueError T.e_NoTurn.x T.e_NoTurn.g T.e_NoTurn.k (raises_own T.e_NoTurn.b T.e_NoTurn.t) rfl))) pss_nil)), ?_⟩
    walk_at "rd"
    by_cases h1 : t < 1
    · exact iteDT h1 (iteT (kE fun h => absurd h.1 (by omega)))
    refine iteDF h1 ?_
    walk_at "rd"
    rw [List.length_map]
    by_cases h2 : (ns.length : Int) < t
    · exact iteDT h2 (kE fun h => absurd h.2 (by omega))
    · exact iteDF h2 (kQ ⟨by omega, by omega⟩)
theorem ok_flipped {f : Addr} {fd : FuncData} (F : Fun K "flipped" "flipped" s_flipped f fd) : FnOk P w K mg base (L2.CX P w) 1 f fd ["pile", "turn"] sp_flipped := by
  refine F.okX sc_flipped (fun vs H Q E h => ?_) (fun cdv A outer s H vs Q E hr h => ?_)
  · obtain ⟨a, ns, k, rfl, _⟩ := h
    rfl
  · obtain ⟨a, ns, k, rfl, ha, hlen, kQ⟩ := h
    refine ⟨_, (pss_one (ps_ret (pe_op op_cat (FL.pe_lstRev rfl rfl T.z_list rfl T.z_reversed (pe_slice sl_list (pv 0) po_none (po_some (pv 1)))) (pe_slice sl_list (pv 0) (po_some (pv 1)) po_none)))), ?_⟩
    walk_at "rd"
    refine ⟨_, _, rfl, by walk_at "sq", fun p hp => ?_⟩
    refine ⟨_, _, rfl, by walk_at "sq", fun q hq => ?_⟩
    walk_at "rd"
    refine ⟨_, _, rfl, by walk_at "sq", fun r hr' => ?_⟩
    refine ⟨_, _, _, _, rfl, rfl, by walk_at "hp", by walk_at "hp", ?_, fun t ht => ?_⟩
    · refine len_small ?_
      rw [List.length_reverse, cutI_to, cutI_from, List.length_map, List.length_map, List.length_take, List.length_drop]
      omega
    · refine kQ t _ (by walk_at "same") (by walk_at "free") ?_
      rw [upd_same, cutI_to, cutI_from, pflip, List.map_append, List.map_reverse]
theorem ok_burnt_flipped {f : Addr} {fd : FuncData} (F : Fun K "burnt_flipped" "burnt_flipped" s_burnt_flipped f fd) : FnOk P w K mg base (L2.CX P w) 1 f fd ["pile", "turn"] (sp_burnt_flipped K) := by
  refine F.okX sc_burnt_flipped (fun vs H Q E h => ?_) (fun cdv A outer s H vs Q E hr h => ?_)
  · obtain ⟨a, ns, k, rfl, _⟩ := h
    rfl
  · obtain ⟨a, ns, k, rfl, ha, hlen, kQ⟩ := h
    refine ⟨_, (pss_one (ps_ret (pe_op op_cat (pe_lc (own := [("cake", 2)]) (g := gName 2) (tt := tYes) rfl sc_burnt_flipped.nd (pi_reversed rfl T.z_reversed (pa_cons (pe_slice sl_list (pv 0) po_none (po_some (pv 1))) pa_nil)) (blkOk_by (own := [("cake", 2)]) (N := ["pile", "turn", "cake"]) (sc := defScope s_burnt_flipped) (by decide +kernel)) (fun _ _ _ _ _ => pg_name (i := 2) sc_burnt_flipped.nd rfl (Or.inl rfl)) (fun _ _ _ _ _ => pts_nil) (fun _ _ _ _ _ => (pe_un un_neg (pv 2)))) (pe_slice sl_list (pv 0) (po_some (pv 1)) po_none)))), ?_⟩
    walk_at "rd"
    refine ⟨_, _, rfl, by walk_at "sq", fun p hp => ?_⟩
    rw [cutI_to]
    have sp : Same H (upd H p (.lst ((ns.take k).map V.int))) := by walk_at "same"
    have ep : SqL K (upd H p (.lst ((ns.take k).map V.int))) p ((ns.take k).map V.int) := by walk_at "sq"
    generalize upd H p (.lst ((ns.take k).map V.int)) = H1 at sp ep
    refine ⟨_, _, rfl, ep, fun D hD => lc_map (itv_rev (ns := ns.take k) ep (by rw [List.length_map])) hD (Same.refl _) (by rw [List.length_reverse, List.length_take]; omega) (fun x => -x) (fun x H' Q' _ s q => ?_) (fun H2 s2 e2 => ?_)⟩
    · walk_at "rd"
      exact q _ (Same.refl _)
    · walk_at "rd"
      refine ⟨_, _, rfl, by walk_at "sq", fun r hr' => ?_⟩
      refine ⟨_, _, _, _, rfl, rfl, by walk_at "hp", by walk_at "hp", ?_, fun t ht => ?_⟩
      · refine len_small ?_
        rw [cutI_from, List.length_map, List.length_map, List.length_map, List.length_reverse, List.length_take, List.length_drop]
        omega
      · refine kQ t _ (by walk_at "same") (by walk_at "free") ?_
        rw [upd_same, cutI_from, bflip, List.map_append]
theorem ok_behind {f : Addr} {fd : FuncData} (F : Fun K "behind" "behind" s_behind f fd) (G_ask_pile : Cal P w K mg base "ask_pile" 1 ["pile"] (sp_ask_pile c.NoPile)) (G_ask_turn : Cal P w K mg base "ask_turn" 1 ["pile", "turn"] (sp_ask_turn c.NoTurn)) (G_flipped : Cal P w K mg base "flipped" 1 ["pile", "turn"] sp_flipped) : FnOk P w K mg base (L2.CX P w) 2 f fd ["pile", "turns"] (sp_behind c.NoPile c.NoTurn) := by
  refine F.okX sc_behind (fun vs H Q E h => ?_) (fun cdv A outer s H vs Q E hr h => ?_)
  · obtain ⟨a, b, ns, ts, rfl, _⟩ := h
    rfl
  · obtain ⟨a, b, ns, ts, rfl, ha, hb, h64, kP, kQ, kT⟩ := h
    refine ⟨_, (pss_cons (ps_expr (pe_cal G_ask_pile hr (by decide) tkOf rfl (pa_cons (pv 0) pa_nil)))
      (pss_cons (ps_for (passes_of rfl) rfl (pi_list (pv 1)) (pg_name (i := 2) sc_behind.nd rfl (Or.inl rfl)) (pss_cons (ps_expr (pe_cal G_ask_turn hr (by decide) tkOf rfl (pa_cons (pv 0) (pa_cons (pv 2) pa_nil))))
      (pss_one (ps_set (i := 0) sc_behind.nd rfl (Or.inl rfl) (pe_cal G_flipped hr (by decide) tkOf rfl (pa_cons (pv 0) (pa_cons (pv 2) pa_nil)))))))
      (pss_one (ps_ret (pe_callTy call_list_of (by rfl) T.z_list (by decide +kernel) (pa_cons (pv 0) pa_nil)))))), ?_⟩
    walk_at "rd"
    refine ⟨a, ns, rfl, ha, h64, fun hp H1 s1 => ?_, kP⟩
    walk_at "rd"
    refine ⟨⟨_, by walk_at "sq"⟩, for_it (itl_ints (K := K) (ns := ts) (H1 := H) (SqL.of hb))
      (fun i σ H' => ∃ (p : Addr) (v : Option V), σ = [some (.ref p), some (.ref b), v] ∧ Same H H' ∧ H' p = some (.lst ((pbehind ns (ts.take i)).map V.int)) ∧ ∀ j, j < i → OkT ns.length (ts.getD j 0))
      ⟨a, none, rfl, s1, s1 _ _ ha, fun j hj => absurd hj (Nat.not_lt_zero _)⟩ (fun i σ H' ⟨_, _, _, s, _⟩ => s) ?_ ?_⟩
    · rintro i σ H' hi ⟨p, v, rfl, s, hp', ok⟩
      walk_at "rd"
      refine ⟨p, _, ts.getD i 0, rfl, hp', fun h => ?_, fun h => ?_⟩
      · rw [pbehind_length] at h
        walk_at "rd"
        refine ⟨p, pbehind ns (ts.take i), (ts.getD i 0).toNat, ?_, hp', by rw [pbehind_length]; omega, fun q H2 s2 np hq => ?_⟩
        · rw [Int.toNat_of_nonneg (by have := h.1; omega)]
        · refine ⟨q, _, rfl, s.trans s2, ?_, fun j hj => ?_⟩
          · rw [hq, take_snoc hi, pbehind_snoc]
          · by_cases e : j = i
            · rw [e]
              exact h
            · exact ok j (by omega)
      · rw [pbehind_length] at h
        refine kT hp (fun hall => h (hall _ ?_)) H' s
        rw [List.getD_eq_getElem?_getD, List.getElem?_eq_getElem hi]
        exact List.getElem_mem hi
    · rintro σ H' ⟨p, v, rfl, s, hp', ok⟩
      rw [List.take_length] at hp'
      walk_at "rd"
      intro t ht
      refine kQ hp (fun t ht => ?_) _ _ (by walk_at "same") (by walk_at "free") upd_same
      obtain ⟨j, hj, e⟩ := List.getElem_of_mem ht
      have := ok j hj
      rw [List.getD_eq_getElem?_getD, List.getElem?_eq_getElem hj] at this
      rw [← e]
      exact this
theorem ok_burnt_behind {f : Addr} {fd : FuncData} (F : Fun K "burnt_behind" "burnt_behind" s_burnt_behind f fd) (G_ask_burnt : Cal P w K mg base "ask_burnt" 2 ["pile"] (sp_ask_burnt c.NoPile)) (G_ask_turn : Cal P w K mg base "ask_turn" 1 ["pile", "turn"] (sp_ask_turn c.NoTurn)) (G_burnt_flipped : Cal P w K mg base "burnt_flipped" 1 ["pile", "turn"] (sp_burnt_flipped K)) : FnOk P w K mg base (L2.CX P w) 3 f fd ["pile", "turns"] (sp_burnt_behind c.NoPile c.NoTurn) := by
  refine F.okX sc_burnt_behind (fun vs H Q E h => ?_) (fun cdv A outer s H vs Q E hr h => ?_)
  · obtain ⟨a, b, ns, ts, rfl, _⟩ := h
    rfl
  · obtain ⟨a, b, ns, ts, rfl, ha, hb, h64, kP, kQ, kT⟩ := h
    refine ⟨_, (pss_cons (ps_expr (pe_cal G_ask_burnt hr (by decide) tkOf rfl (pa_cons (pv 0) pa_nil)))
      (pss_cons (ps_for (passes_of rfl) rfl (pi_list (pv 1)) (pg_name (i := 2) sc_burnt_behind.nd rfl (Or.inl rfl)) (pss_cons (ps_expr (pe_cal G_ask_turn hr (by decide) tkOf rfl (pa_cons (pv 0) (pa_cons (pv 2) pa_nil))))
      (pss_one (ps_set (i := 0) sc_burnt_behind.nd rfl (Or.inl rfl) (pe_cal G_burnt_flipped hr (by decide) tkOf rfl (pa_cons (pv 0) (pa_cons (pv 2) pa_nil)))))))
      (pss_one (ps_ret (pe_callTy call_list_of (by rfl) T.z_list (by decide +kernel) (pa_cons (pv 0) pa_nil)))))), ?_⟩
    walk_at "rd"
    refine ⟨a, ns, rfl, ha, h64, fun hp H1 s1 => ?_, kP⟩
    walk_at "rd"
    refine ⟨⟨_, by walk_at "sq"⟩, for_it (itl_ints (K := K) (ns := ts) (H1 := H) (SqL.of hb))
      (fun i σ H' => ∃ (p : Addr) (v : Option V), σ = [some (.ref p), some (.ref b), v] ∧ Same H H' ∧ H' p = some (.lst ((pbbehind ns (ts.take i)).map V.int)) ∧ ∀ j, j < i → OkT ns.length (ts.getD j 0))
      ⟨a, none, rfl, s1, s1 _ _ ha, fun j hj => absurd hj (Nat.not_lt_zero _)⟩ (fun i σ H' ⟨_, _, _, s, _⟩ => s) ?_ ?_⟩
    · rintro i σ H' hi ⟨p, v, rfl, s, hp', ok⟩
      walk_at "rd"
      refine ⟨p, _, ts.getD i 0, rfl, hp', fun h => ?_, fun h => ?_⟩
      · rw [pbbehind_length] at h
        walk_at "rd"
        refine ⟨p, pbbehind ns (ts.take i), (ts.getD i 0).toNat, ?_, hp', by rw [pbbehind_length]; omega, fun q H2 s2 np hq => ?_⟩
        · rw [Int.toNat_of_nonneg (by have := h.1; omega)]
        · refine ⟨q, _, rfl, s.trans s2, ?_, fun j hj => ?_⟩
          · rw [hq, take_snoc hi, pbbehind_snoc]
          · by_cases e : j = i
            · rw [e]
              exact h
            · exact ok j (by omega)
      · rw [pbbehind_length] at h
        refine kT hp (fun hall => h (hall _ ?_)) H' s
        rw [List.getD_eq_getElem?_getD, List.getElem?_eq_getElem hi]
        exact List.getElem_mem hi
    · rintro σ H' ⟨p, v, rfl, s, hp', ok⟩
      rw [List.take_length] at hp'
      walk_at "rd"
      intro t ht
      refine kQ hp (fun t ht => ?_) _ _ (by walk_at "same") (by walk_at "free") upd_same
      obtain ⟨j, hj, e⟩ := List.getElem_of_mem ht
      have := ok j hj
      rw [List.getD_eq_getElem?_getD, List.getElem?_eq_getElem hj] at this
      rw [← e]
      exact this
theorem ok__law_cell_at {f : Addr} {fd : FuncData} (F : Fun K "_law_cell_at" "_law_cell_at" s__law_cell_at f fd) : FnOk P w K mg base (L2.CX P w) 1 f fd ["script", "k"] (sp_cell K) := by
  refine F.okX sc__law_cell_at (fun vs H Q E h => ?_) (fun cdv A outer s H vs Q E hr h => ?_)
  · obtain ⟨a, ns, t, rfl, _⟩ := h
    rfl
  · obtain ⟨a, ns, t, rfl, hS, h0, kQ⟩ := h
    obtain ⟨k, rfl⟩ : ∃ k : Nat, t = (k : Int) := ⟨t.toNat, by omega⟩
    rw [Int.toNat_natCast] at kQ
    refine ⟨_, (pss_cons (ps_if (pt_cmpR op_lt (pv 1) (pe_callB call_len_seq (by rfl) T.z_len PySem.boot_len (pa_cons (pv 0) pa_nil)) (nomark _)) (pss_one (ps_ret (pe_ix ix_list (pv 0) (pv 1) (fun _ _ => rfl)))) pss_nil)
      (pss_one (ps_ret pe_int))), ?_⟩
    walk_at "rd"
    by_cases hk : k < ns.length
    · refine iteDT (by rw [List.length_map]; omega) ?_
      walk_at "rd"
      refine ⟨_, _, _, _, rfl, rfl, by walk_at "sq", atI_nat (j := k) (v := V.int (cell ns k)) ?_, kQ⟩
      rw [List.getElem?_map, List.getElem?_eq_getElem hk]
      show some (V.int _) = some (V.int _)
      unfold cell
      rw [List.getD_eq_getElem?_getD, List.getElem?_eq_getElem hk]
      rfl
    · refine iteDF (by rw [List.length_map]; omega) ?_
      have e : cell ns k = 0 := by
        unfold cell
        rw [List.getD_eq_getElem?_getD, List.getElem?_eq_none (by omega)]
        rfl
      rw [e] at kQ
      exact kQ
theorem ok__law_whole {f : Addr} {fd : FuncData} (F : Fun K "_law_whole" "_law_whole" s__law_whole f fd) : FnOk P w K mg base (L2.CX P w) 1 f fd ["found"] sp_whole := by
  refine F.okX sc__law_whole (fun vs H Q E h => ?_) (fun cdv A outer s H vs Q E hr h => ?_)
  · obtain ⟨i, rfl, _⟩ := h
    rfl
  · obtain ⟨i, rfl, kQ⟩ := h
    refine ⟨_, (pss_one (ps_ret (pe_and (pe_callB call_isi (by rfl) T.z_isinstance (by decide +kernel) (pa_cons (pv 0) (pa_cons (pe_bltn (v := .ty "int") (u := .type "int") rfl T.z_int (by decide +kernel) rfl) pa_nil))) (pe_one (pe_not (pe_callB call_isi (by rfl) T.z_isinstance (by decide +kernel) (pa_cons (pv 0) (pa_cons (pe_bltn (v := .ty "bool") (u := .type "bool") rfl T.z_bool (by decide +kernel) rfl) pa_nil)))))))), ?_⟩
    walk_at "rd"
    refine ⟨.int i, .ty "int", _, _, true, rfl, .ty _, .base (.int i), kit_ty (by decide +kernel), true, rfl, iteT ?_⟩
    walk_at "rd"
    exact ⟨.int i, .ty "bool", _, _, false, rfl, .ty _, .base (.int i), kit_ty (by decide +kernel), false, rfl, kQ⟩
theorem ok__law_pile {f : Addr} {fd : FuncData} (F : Fun K "_law_pile" "_law_pile" s__law_pile f fd) (G__law_cell_at : Cal P w K mg base "_law_cell_at" 1 ["script", "k"] (sp_cell K)) : FnOk P w K mg base (L2.CX P w) 2 f fd ["script", "at", "most"] (sp_pile K) := by
  refine F.okX sc__law_pile (fun vs H Q E h => ?_) (fun cdv A outer s H vs Q E hr h => ?_)
  · obtain ⟨a, ns, t, m, rfl, _⟩ := h
    rfl
  · obtain ⟨a, ns, t, m, rfl, hS, m1, m12, kQ⟩ := h
    refine ⟨_, (pss_cons (ps_set (i := 3) sc__law_pile.nd rfl (Or.inl rfl) (pe_op op_add pe_int (pe_op op_mod (pe_cal G__law_cell_at hr (by decide) takes0 rfl (pa_cons (pv 0) (pa_cons (pv 1) pa_nil))) (pv 2))))
      (pss_cons (ps_set (i := 4) sc__law_pile.nd rfl (Or.inl rfl) (pe_listRg rfl rfl T.z_list (prg_2 rfl T.z_range pe_int (pe_op op_add (pv 3) pe_int))))
      (pss_cons (ps_set (i := 5) sc__law_pile.nd rfl (Or.inl rfl) (pe_lst pa_nil))
      (pss_cons (ps_for (passes_of rfl) rfl (pi_range1 rfl T.z_range (pa_cons (pv 3) pa_nil)) (pg_name (i := 6) sc__law_pile.nd rfl (Or.inl rfl)) (pss_one (ps_expr (pe_bm PySem.F.plainAttrs_list PySem.F.slot_list_append PySem.F.type_list_append mt_append (pv 5) (pa_cons (pe_bm PySem.F.plainAttrs_list PySem.F.slot_list_pop PySem.F.type_list_pop mt_popAt (pv 4) (pa_cons (pe_op op_mod (pe_cal G__law_cell_at hr (by decide) takes0 rfl (pa_cons (pv 0) (pa_cons (pe_op op_add (pe_op op_add (pv 1) pe_int) (pv 6)) pa_nil))) (pe_callB call_len_seq (by rfl) T.z_len PySem.boot_len (pa_cons (pv 4) pa_nil))) pa_nil)) pa_nil)))))
      (pss_one (ps_ret (pv 5))))))), ?_⟩
    walk_at "rd"
    refine ⟨(by show (0 : Int) < _; omega), ?_⟩
    rw [Int.toNat_natCast]
    have z0 : 0 ≤ cell ns t % (m : Int) := Int.emod_nonneg _ (by omega)
    have z1 : cell ns t % (m : Int) < m := Int.emod_lt_of_pos _ (by omega)
    obtain ⟨z, hz⟩ : ∃ z : Nat, 1 + cell ns t % (m : Int) = (z : Int) := ⟨(1 + cell ns t % (m : Int)).toNat, by omega⟩
    walk_at "rd"
    rw [hz]
    refine ⟨RgOk.of_le (by omega) (by omega) (by omega) (by omega), fun l hl => ?_⟩
    rw [rgV_upto z _ rfl]
    refine ⟨Nat.zero_le _, fun p hp => ?_⟩
    walk_at "rd"
    refine ⟨by omega, by omega, for_it (itr (H1 := H))
      (fun i σ H' => ∃ (ls ps : List Int) (v : Option V), σ = [some (.ref a), some (.int (t : Nat)), some (.int (m : Nat)), some (.int (z : Nat)), some (.ref l), some (.ref p), v] ∧ Same H H' ∧
        H' l = some (.lst (ls.map V.int)) ∧ H' p = some (.lst (ps.map V.int)) ∧ ls.length + i = z ∧ ps.length = i ∧ (ps ++ ls).Perm (upto z))
      ⟨upto z, [], none, by rw [← hz]; rfl, by walk_at "same", by walk_at "hp", by walk_at "hp", by rw [upto_length]; rfl, rfl, List.Perm.refl _⟩ (fun i σ H' ⟨_, _, _, _, s, _⟩ => s) ?_ ?_⟩
    · rintro i σ H' hi ⟨ls, ps, v, rfl, s, eL, eP, n1, n2, perm⟩
      have npl : p ≠ l := (ne_of_none upd_same hp).symm
      have fl : H l = none := by walk_at "free"
      have fp : H p = none := by walk_at "free"
      walk_at "rd"
      rw [List.length_map]
      refine ⟨(by show (0 : Int) < _; omega), ?_⟩
      have w0 : 0 ≤ cell ns ((t : Int) + 1 + (0 + (i : Int))).toNat % (ls.length : Int) := Int.emod_nonneg _ (by omega)
      have w1 : cell ns ((t : Int) + 1 + (0 + (i : Int))).toNat % (ls.length : Int) < ls.length := Int.emod_lt_of_pos _ (by omega)
      have hj : (cell ns ((t : Int) + 1 + (0 + (i : Int))).toNat % (ls.length : Int)).toNat < ls.length := by omega
      refine ⟨l, _, _, _, _, rfl, rfl, eL, by omega, by omega, seqIndex_of w0 (by rw [List.length_map]; exact w1), setInt (List.getElem?_eq_getElem hj), ?_⟩
      refine ⟨p, _, _, rfl, rfl, by walk_at "hp", len_small' (by rw [List.length_map]; omega), ?_⟩
      refine ⟨ls.eraseIdx (cell ns ((t : Int) + 1 + (0 + (i : Int))).toNat % (ls.length : Int)).toNat, ps ++ [ls[(cell ns ((t : Int) + 1 + (0 + (i : Int))).toNat % (ls.length : Int)).toNat]'hj], _, rfl, by walk_at "same", ?_, ?_, ?_, ?_, ?_⟩
      · rw [upd_ne npl.symm, upd_same, erase_map]
      · rw [upd_same, List.map_append]
        rfl
      · rw [List.length_eraseIdx_of_lt hj]
        omega
      · rw [List.length_append, n2]
        rfl
      · refine List.Perm.trans ?_ perm
        rw [List.append_assoc]
        exact (erase_perm ls _ hj).append_left ps
    · rintro σ H' ⟨ls, ps, v, rfl, s, eL, eP, n1, n2, perm⟩
      have e0 : ls = [] := List.length_eq_zero_iff.mp (by omega)
      rw [e0, List.append_nil] at perm
      walk_at "rd"
      refine kQ ps ⟨by omega, by omega, ?_⟩ (by omega) p H' s (by walk_at "free") eP
      rw [n2, hz, Int.toNat_natCast]
      exact perm
theorem ok__law_burnt {f : Addr} {fd : FuncData} (F : Fun K "_law_burnt" "_law_burnt" s__law_burnt f fd) : FnOk P w K mg base (L2.CX P w) 1 f fd ["pile", "cell"] sp__law_burnt := by
  refine F.okX sc__law_burnt (fun vs H Q E h => ?_) (fun cdv A outer s H vs Q E hr h => ?_)
  · obtain ⟨a, ns, m, rfl, _⟩ := h
    rfl
  · obtain ⟨a, ns, m, rfl, ha, hlen, kQ⟩ := h
    refine ⟨_, (pss_cons (ps_set (i := 2) sc__law_burnt.nd rfl (Or.inl rfl) (pe_lst pa_nil))
      (pss_cons (ps_for (passes_of rfl) rfl (pi_list (pv 0)) (pg_name (i := 3) sc__law_burnt.nd rfl (Or.inl rfl)) (pss_cons (ps_expr (pe_bm PySem.F.plainAttrs_list PySem.F.slot_list_append PySem.F.type_list_append mt_append (pv 2) (pa_cons (pe_ix ix_list (pe_lst (pa_cons (pv 3) (pa_cons (pe_un un_neg (pv 3)) pa_nil))) (pe_op op_mod (pv 1) pe_int) (fun _ _ => rfl)) pa_nil)))
      (pss_one (ps_set (i := 1) sc__law_burnt.nd rfl (Or.inl rfl) (pe_op op_fdiv (pv 1) pe_int)))))
      (pss_one (ps_ret (pv 2))))), ?_⟩
    refine ⟨Nat.zero_le _, fun p hp => ?_⟩
    walk_at "rd"
    refine ⟨⟨_, by walk_at "sq"⟩, for_it (itl_ints (K := K) (ns := ns) (H1 := H) (SqL.of ha))
      (fun i σ H' => ∃ (bs : List Int) (y : Int) (v : Option V), σ = [some (.ref a), some (.int y), some (.ref p), v] ∧ Same H H' ∧ H' p = some (.lst (bs.map V.int)) ∧ bs.map iabs = (ns.take i).map iabs)
      ⟨[], m, none, rfl, by walk_at "same", by walk_at "hp", rfl⟩ (fun i σ H' ⟨_, _, _, _, s, _⟩ => s) ?_ ?_⟩
    · rintro i σ H' hi ⟨bs, y, v, rfl, s, eP, eb⟩
      walk_at "rd"
      refine ⟨(by show 2 ≤ sizeLine; decide), fun q hq => ?_⟩
      walk_at "rd"
      have lb : bs.length ≤ 1000 := by
        have := congrArg List.length eb
        rw [List.length_map, List.length_map, List.length_take] at this
        omega
      have m0 : 0 ≤ y % 2 := Int.emod_nonneg _ (by decide)
      have m1 : y % 2 < 2 := Int.emod_lt_of_pos _ (by decide)
      by_cases c0 : y % 2 = 0
      · refine ⟨q, _, _, V.int (ns.getD i 0), rfl, rfl, by walk_at "sq", (by show atI _ (y % 2) = _; rw [c0]; rfl), ?_⟩
        refine ⟨p, _, _, rfl, rfl, by walk_at "hp", len_small' (by rw [List.length_map]; omega), ?_⟩
        walk_at "rd"
        refine ⟨bs ++ [ns.getD i 0], _, _, rfl, same_mut (same_new s hq) hp, ?_, ?_⟩
        · rw [upd_same, List.map_append] <;> rfl
        · rw [take_snoc hi, List.map_append, List.map_append, eb] <;> simp only [List.map_cons, List.map_nil, iabs_neg]
      · refine ⟨q, _, _, V.int (-(ns.getD i 0)), rfl, rfl, by walk_at "sq", (by show atI _ (y % 2) = _; rw [show y % 2 = 1 by omega]; rfl), ?_⟩
        refine ⟨p, _, _, rfl, rfl, by walk_at "hp", len_small' (by rw [List.length_map]; omega), ?_⟩
        walk_at "rd"
        refine ⟨bs ++ [-(ns.getD i 0)], _, _, rfl, same_mut (same_new s hq) hp, ?_, ?_⟩
        · rw [upd_same, List.map_append] <;> rfl
        · rw [take_snoc hi, List.map_append, List.map_append, eb] <;> simp only [List.map_cons, List.map_nil, iabs_neg]
    · rintro σ H' ⟨bs, y, v, rfl, s, eP, eb⟩
      rw [List.take_length] at eb
      walk_at "rd"
      exact kQ bs eb p H' s hp eP
theorem ok__law_turned {f : Addr} {fd : FuncData} (F : Fun K "_law_turned" "_law_turned" s__law_turned f fd) : FnOk P w K mg base (L2.CX P w) 1 f fd ["pile", "turn", "burnt"] sp_turned := by
  refine F.okX sc__law_turned (fun vs H Q E h => ?_) (fun cdv A outer s H vs Q E hr h => ?_)
  · obtain ⟨a, ns, k, b, rfl, _⟩ := h
    rfl
  · obtain ⟨a, ns, k, b, rfl, ha, hk, hlen, kQ⟩ := h
    refine ⟨_, (pss_cons (ps_set (i := 3) sc__law_turned.nd rfl (Or.inr rfl) (pe_ix ix_list (pe_lst (pa_cons pe_int (pa_cons (pe_un un_neg pe_int) pa_nil))) (pe_callTy call_int1 (by rfl) T.z_int (by decide +kernel) (pa_cons (pv 2) pa_nil)) (fun _ _ => rfl)))
      (pss_one (ps_ret (pe_op op_cat (pe_lc (own := [("k", 4)]) (g := gName 4) (tt := tYes) rfl sc__law_turned.nd (pi_range1 rfl T.z_range (pa_cons (pv 1) pa_nil)) (blkOk_by (own := [("k", 4)]) (N := ["pile", "turn", "burnt", "sign", "k"]) (sc := defScope s__law_turned) (by decide +kernel)) (fun _ _ _ _ _ => pg_name (i := 4) sc__law_turned.nd rfl (Or.inl rfl)) (fun _ _ _ _ _ => pts_nil) (fun _ _ _ _ _ => (pe_op op_mul (pv 3) (pe_ix (r := rIxL K) ix_list (pv 0) (pe_op op_sub (pe_op op_sub (pv 1) pe_int) (pv 4)) (fun _ _ => rfl))))) (pe_slice sl_list (pv 0) (po_some (pv 1)) po_none))))), ?_⟩
    refine ⟨_, rfl, ?_⟩
    refine ⟨(by show 2 ≤ sizeLine; decide), fun q hq => ?_⟩
    walk_at "rd"
    refine .inr ⟨b, rfl, ?_⟩
    refine ⟨q, _, _, V.int (if b = true then -1 else 1), rfl, rfl, by walk_at "sq", (by cases b <;> rfl), ?_⟩
    walk_at "rd"
    refine ⟨by omega, by omega, fun D hD => lc_yes (itr (H1 := H)) hD (by walk_at "same") (by omega) (fun j => V.int ((if b = true then -1 else 1) * ns.getD (k - 1 - j) 0)) (fun j H' Q' hj s q => ?_) (fun H2 s2 e2 => ?_)⟩
    · walk_at "rd"
      have h1 : k - 1 - j < ns.length := by omega
      refine ⟨a, _, _, V.int (ns.getD (k - 1 - j) 0), rfl, rfl, SqL.of (s _ _ (by walk_at "hp")), at_of (j := k - 1 - j) (by omega) (setInt (by rw [List.getElem?_eq_getElem h1, List.getD_eq_getElem?_getD, List.getElem?_eq_getElem h1]; rfl)), ?_⟩
      walk_at "rd"
      exact ⟨.inl (by cases b <;> decide), q _ (Same.refl _)⟩
    · walk_at "rd"
      refine ⟨_, _, rfl, by walk_at "sq", fun r hr' => ?_⟩
      refine ⟨_, _, _, _, rfl, rfl, by walk_at "hp", by walk_at "hp", ?_, fun t ht => ?_⟩
      · refine len_small ?_
        rw [cutI_from, List.length_map, List.length_map, List.length_range, List.length_drop]
        omega
      · refine kQ t _ (by walk_at "same") (by walk_at "free") ?_
        rw [upd_same, cutI_from, ← turned_eq b ns k hk]
        rfl
theorem ok__law_numbers {f : Addr} {fd : FuncData} (F : Fun K "_law_numbers" "_law_numbers" s__law_numbers f fd) (G__law_whole : Cal P w K mg base "_law_whole" 1 ["found"] sp_whole) : FnOk P w K mg base (L2.CX P w) 2 f fd ["found", "low", "high"] sp_numbers := by
  refine F.okX sc__law_numbers (fun vs H Q E h => ?_) (fun cdv A outer s H vs Q E hr h => ?_)
  · obtain ⟨a, ns, lo, hi, rfl, _⟩ := h
    rfl
  · obtain ⟨a, ns, lo, hi, rfl, ha, hall, kQ⟩ := h
    refine ⟨_, (pss_cons (ps_if (pt_not (pt_val (pe_callB call_isi (by rfl) T.z_isinstance (by decide +kernel) (pa_cons (pv 0) (pa_cons (pe_bltn (v := .ty "list") (u := .type "list") rfl T.z_list (by decide +kernel) rfl) pa_nil))))) (pss_one (ps_ret pe_bl)) pss_nil)
      (pss_cons (ps_for (passes_of rfl) rfl (pi_list (pv 0)) (pg_name (i := 3) sc__law_numbers.nd rfl (Or.inl rfl)) (pss_one (ps_if (PW.pt (pw_or (pt_not (pt_val (pe_cal G__law_whole hr (by decide) takes0 rfl (pa_cons (pv 3) pa_nil)))) (pw_or1 (pt_not (pt_chain op_le op_le (pv 1) (pv 3) (pv 2)))))) (pss_one (ps_ret pe_bl)) pss_nil)))
      (pss_one (ps_ret pe_bl)))), ?_⟩
    walk_at "rd"
    refine ⟨.ref a, .ty "list", _, _, true, rfl, .ty _, .base (.lst ha), kit_ty (by decide +kernel), true, rfl, iteF ?_⟩
    walk_at "rd"
    refine ⟨⟨_, by walk_at "sq"⟩, for_it (itl_ints (K := K) (ns := ns) (H1 := H) (SqL.of ha))
      (fun i σ H' => ∃ (v : Option V), σ = [some (.ref a), some (.int lo), some (.int hi), v] ∧ H' = H) ⟨none, rfl, rfl⟩ (fun i σ H' ⟨_, _, e⟩ => by rw [e]; exact Same.refl _) ?_ ?_⟩
    · rintro i σ H' hx ⟨v, rfl, rfl⟩
      have hm := hall _ (getD_in hx)
      walk_at "rd"
      refine iteDT hm.1 ?_
      walk_at "rd"
      rw [decide_eq_true hm.2]
      exact iteF ⟨_, rfl, rfl⟩
    · rintro σ H' ⟨v, rfl, rfl⟩
      exact kQ
theorem ok_law {f : Addr} {fd : FuncData} (F : Fun K "law" "law" s_law f fd) (G__law_pile : Cal P w K mg base "_law_pile" 2 ["script", "at", "most"] (sp_pile K)) (G__law_burnt : Cal P w K mg base "_law_burnt" 1 ["pile", "cell"] sp__law_burnt) (G__law_cell_at : Cal P w K mg base "_law_cell_at" 1 ["script", "k"] (sp_cell K)) (G__law_turned : Cal P w K mg base "_law_turned" 1 ["pile", "turn", "burnt"] sp_turned) (G_behind : Cal P w K mg base "behind" 2 ["pile", "turns"] (sp_behind c.NoPile c.NoTurn)) (G_burnt_behind : Cal P w K mg base "burnt_behind" 3 ["pile", "turns"] (sp_burnt_behind c.NoPile c.NoTurn)) (G__law_numbers : Cal P w K mg base "_law_numbers" 2 ["found", "low", "high"] sp_numbers) : FnOk P w K mg base (L2.CX P w) 4 f fd ["script"] (sp_law K) := by
  refine F.okX sc_law (fun vs H Q E h => ?_) (fun cdv A outer s H vs Q E hr h => ?_)
  · obtain ⟨a, ns, rfl, _⟩ := h
    rfl
  · obtain ⟨a, ns, rfl, hS, hlen, kQ⟩ := h
    refine ⟨_, (pss_cons (ps_set (i := 1) sc_law.nd rfl (Or.inr rfl) (pe_cal G__law_pile hr (by decide) takes0 rfl (pa_cons (pv 0) (pa_cons pe_int (pa_cons pe_int pa_nil)))))
      (pss_cons (ps_set (i := 2) sc_law.nd rfl (Or.inl rfl) (pe_cal G__law_burnt hr (by decide) takes0 rfl (pa_cons (pv 1) (pa_cons (pe_cal G__law_cell_at hr (by decide) takes0 rfl (pa_cons (pv 0) (pa_cons pe_int pa_nil))) pa_nil))))
      (pss_cons (ps_set (i := 3) sc_law.nd rfl (Or.inl rfl) (pe_op op_mod (pe_cal G__law_cell_at hr (by decide) takes0 rfl (pa_cons (pv 0) (pa_cons pe_int pa_nil))) pe_int))
      (Evl.pss_cut (ps_if (pt_cmpR op_eq (pe_op op_mod (pe_op op_fdiv (pe_cal G__law_cell_at hr (by decide) takes0 rfl (pa_cons (pv 0) (pa_cons pe_int pa_nil))) pe_int) pe_int) pe_int (nomark _)) (pss_one (ps_set (i := 3) sc_law.nd rfl (Or.inl rfl) (pe_op op_add pe_int (pe_op op_mod (pe_op op_fdiv (pe_cal G__law_cell_at hr (by decide) takes0 rfl (pa_cons (pv 0) (pa_cons pe_int pa_nil))) pe_int) pe_int)))) pss_nil)
      (pss_cons (ps_setLc (i := 4) (own := [("k", 5)]) (g := gName 5) (tt := tYes) rfl sc_law.nd rfl rfl (sw_true rfl rfl rfl (by decide +kernel)) (pi_range1 rfl T.z_range (pa_cons (pv 3) pa_nil)) (blkOk_by (own := [("k", 5)]) (N := ["script", "plain", "burnt", "many", "turns", "k", "due", "turn", "again", "handed", "found", "one"]) (sc := defScope s_law) (by decide +kernel)) (fun _ _ _ _ _ => pg_name (i := 5) sc_law.nd rfl (Or.inl rfl)) (fun _ _ _ _ _ => pts_nil) (fun _ _ _ _ _ => (pe_op op_add pe_int (pe_op op_mod (pe_cal G__law_cell_at hr (by decide) takes0 rfl (pa_cons (pv 0) (pa_cons (pe_op op_add pe_int (pv 5)) pa_nil))) (pe_callB (r := FL.rLen K) FL.call_len (by rfl) T.z_len PySem.boot_len (pa_cons (pv 1) pa_nil))))))
      (pss_cons (ps_set (i := 6) sc_law.nd rfl (Or.inl rfl) (pe_lst (pa_cons (pe_callTy call_list_of (by rfl) T.z_list (by decide +kernel) (pa_cons (pv 1) pa_nil)) (pa_cons (pe_callTy call_list_of (by rfl) T.z_list (by decide +kernel) (pa_cons (pv 2) pa_nil)) pa_nil))))
      (pss_cons (ps_for (passes_of rfl) rfl (pi_list (pv 4)) (pg_name (i := 7) sc_law.nd rfl (Or.inl rfl)) (pss_one (ps_set (i := 6) sc_law.nd rfl (Or.inl rfl) (pe_lst (pa_cons (pe_cal G__law_turned hr (by decide) takes0 rfl (pa_cons (pe_ix ix_list (pv 6) pe_int (fun _ _ => rfl)) (pa_cons (pv 7) (pa_cons pe_bl pa_nil)))) (pa_cons (pe_cal G__law_turned hr (by decide) takes0 rfl (pa_cons (pe_ix ix_list (pv 6) pe_int (fun _ _ => rfl)) (pa_cons (pv 7) (pa_cons pe_bl pa_nil)))) pa_nil))))))
      (pss_cons (ps_for (passes_of rfl) rfl (pi_range1 rfl T.z_range (pa_cons pe_int pa_nil)) (pg_name (i := 8) sc_law.nd rfl (Or.inl rfl)) (pss_cons (ps_set (i := 9) sc_law.nd rfl (Or.inl rfl) (pe_lst (pa_cons (pe_callTy call_list_of (by rfl) T.z_list (by decide +kernel) (pa_cons (pv 1) pa_nil)) (pa_cons (pe_callTy call_list_of (by rfl) T.z_list (by decide +kernel) (pa_cons (pv 2) pa_nil)) (pa_cons (pe_callTy call_list_of (by rfl) T.z_list (by decide +kernel) (pa_cons (pv 4) pa_nil)) pa_nil)))))
      (pss_cons (ps_set (i := 10) sc_law.nd rfl (Or.inl rfl) (pe_lst (pa_cons (pe_cal G_behind hr (by decide) takes0 rfl (pa_cons (pe_ix ix_list (pv 9) pe_int (fun _ _ => rfl)) (pa_cons (pe_ix ix_list (pv 9) pe_int (fun _ _ => rfl)) pa_nil))) (pa_cons (pe_cal G_burnt_behind hr (by decide) takes0 rfl (pa_cons (pe_ix ix_list (pv 9) pe_int (fun _ _ => rfl)) (pa_cons (pe_ix ix_list (pv 9) pe_int (fun _ _ => rfl)) pa_nil))) pa_nil))))
      (pss_cons (ps_if (PW.pt (pw_or (pt_cmpR (op_neD hr.units) (pv 9) (pe_lst (pa_cons (pv 1) (pa_cons (pv 2) (pa_cons (pv 4) pa_nil)))) (nomark _)) (pw_or1 (pt_cmpR (op_neD hr.units) (pv 10) (pv 6) (nomark _))))) (pss_one (ps_ret pe_bl)) pss_nil)
      (pss_cons (ps_for (passes_of rfl) rfl (pi_list (pv 10)) (pg_name (i := 11) sc_law.nd rfl (Or.inl rfl)) (pss_cons (ps_if (pt_not (pt_val (pe_cal G__law_numbers hr (by decide) takes0 rfl (pa_cons (pv 11) (pa_cons (pe_un un_neg pe_int) (pa_cons pe_int pa_nil)))))) (pss_one (ps_ret pe_bl)) pss_nil)
      (pss_one (ps_expr (pe_bm PySem.F.plainAttrs_list PySem.F.slot_list_append PySem.F.type_list_append mt_append (pv 11) (pa_cons pe_int pa_nil))))))
      (pss_one (ps_if (pt_cmpR (op_neD hr.units) (pv 9) (pe_lst (pa_cons (pv 1) (pa_cons (pv 2) (pa_cons (pv 4) pa_nil)))) (nomark _)) (pss_one (ps_ret pe_bl)) pss_nil)))))))
      (pss_one (ps_ret pe_bl)))))))))), ?_⟩
    walk_at "rd"
    refine ⟨a, ns, 0, 12, rfl, hS, by decide, by decide, fun pl hpl hpl12 p1 H1 s1 np1 e1 => ?_⟩
    walk_at "rd"
    intro bl hbl p2 H2 s2 np2 e2
    have hb := signed_burnt hpl hbl
    have lb : bl.length = pl.length := signed_len hbl
    have l1 := hpl.1
    walk_at "rd"
    refine ⟨fun σ' H' => ∃ M : Int, 0 ≤ M ∧ M ≤ 48 ∧ σ' = [some (.ref a), some (.ref p1), some (.ref p2), some (.int M), none, none, none, none, none, none, none, none] ∧ H' = H2, ?_, ?_⟩
    · walk_at "rd"
      refine ⟨rfl, ?_⟩
      walk_at "rd"
      refine iteB (fun _ => ?_) (fun _ => ?_)
      · walk_at "rd"
        exact ⟨_, by have := Int.emod_nonneg (cell ns (14 : Int).toNat / 78) (show (36 : Int) ≠ 0 by decide); omega, by have := Int.emod_lt_of_pos (cell ns (14 : Int).toNat / 78) (show (0 : Int) < 36 by decide); omega, rfl, rfl⟩
      · exact ⟨_, Int.emod_nonneg _ (by decide), by have := Int.emod_lt_of_pos (cell ns (14 : Int).toNat) (show (0 : Int) < 13 by decide); omega, rfl, rfl⟩
    rintro σ' H' ⟨M, hM0, hM, rfl, rfl⟩
    have hS2 := s2.seq (s1.seq hS)
    have e1 := s2 _ _ e1
    walk_at "rd"
    refine ⟨by omega, by omega, fun D hD => lc_yes (itr (H1 := H')) hD (Same.refl _) (by omega) (fun j => V.int (1 + cell ns (15 + (0 + (j : Int))).toNat % (((pl.map V.int).length : Nat) : Int))) (fun j H2 Q' hj s q => ?_) (fun H3 s3 e3 => ?_)⟩
    · walk_at "rd"
      refine ⟨(by show (0 : Int) < _; rw [List.length_map]; omega), ?_⟩
      walk_at "rd"
      exact q _ (Same.refl _)
    obtain ⟨ts, hts, hok⟩ : ∃ ts : List Int, (List.range M.toNat).map (fun (j : Nat) => V.int (1 + cell ns (15 + (0 + (j : Int))).toNat % (((pl.map V.int).length : Nat) : Int))) = ts.map V.int ∧ ∀ t ∈ ts, OkT pl.length t := by
      refine ⟨(List.range M.toNat).map (fun (j : Nat) => 1 + cell ns (15 + (0 + (j : Int))).toNat % (((pl.map V.int).length : Nat) : Int)), by rw [List.map_map]; rfl, fun t ht => ?_⟩
      obtain ⟨j, _, rfl⟩ := List.mem_map.mp ht
      rw [List.length_map]
      have h1 := Int.emod_nonneg (cell ns (15 + (0 + (j : Int))).toNat) (show ((pl.length : Nat) : Int) ≠ 0 by omega)
      have h2 := Int.emod_lt_of_pos (cell ns (15 + (0 + (j : Int))).toNat) (show (0 : Int) < ((pl.length : Nat) : Int) by omega)
      exact ⟨by omega, by omega⟩
    rw [hts] at e3
    have mlen : ts.length ≤ 48 := by
      have := congrArg List.length hts
      rw [List.length_map, List.length_map, List.length_range] at this
      omega
    have e1 := s3 _ _ e1
    have e2 := s3 _ _ e2
    clear hts hM0 hM s3 hS2 hD
    -- due = [list(plain), list(burnt)]
    walk_at "rd"
    intro x hx
    walk_at "rd"
    intro y hy
    refine ⟨(by show 2 ≤ sizeLine; decide), fun d hd => ?_⟩
    have ed : upd (upd (upd H3 x (.lst (pl.map V.int))) y (.lst (bl.map V.int))) d (.lst [V.ref x, V.ref y]) d = some (.lst [V.ref x, V.ref y]) := upd_same
    have ex : upd (upd (upd H3 x (.lst (pl.map V.int))) y (.lst (bl.map V.int))) d (.lst [V.ref x, V.ref y]) x = some (.lst (pl.map V.int)) := by walk_at "hp"
    have ey : upd (upd (upd H3 x (.lst (pl.map V.int))) y (.lst (bl.map V.int))) d (.lst [V.ref x, V.ref y]) y = some (.lst (bl.map V.int)) := by walk_at "hp"
    have s4 : Same H3 (upd (upd (upd H3 x (.lst (pl.map V.int))) y (.lst (bl.map V.int))) d (.lst [V.ref x, V.ref y])) := by walk_at "same"
    walk_at "rd"
    generalize upd (upd (upd H3 x (.lst (pl.map V.int))) y (.lst (bl.map V.int))) d (.lst [V.ref x, V.ref y]) = H4 at ed ex ey s4
    refine ⟨⟨_, SqL.of (s4 _ _ e3)⟩, for_it (itl_ints (K := K) (ns := ts) (H1 := H3) (SqL.of e3))
      (fun i σ H' => ∃ (d x y : Addr) (v : Option V), σ = [some (.ref a), some (.ref p1), some (.ref p2), some (.int M), some (.ref D), none, some (.ref d), v, none, none, none, none] ∧ Same H3 H' ∧
        H' d = some (.lst [V.ref x, V.ref y]) ∧ H' x = some (.lst ((pbehind pl (ts.take i)).map V.int)) ∧ H' y = some (.lst ((pbbehind bl (ts.take i)).map V.int)))
      ⟨d, x, y, none, rfl, s4, ed, ex, ey⟩ (fun i σ H' ⟨_, _, _, _, _, s, _⟩ => s) ?_ ?_⟩
    · clear ed ex ey s4 hx hy hd
      rintro i σ H' hi ⟨d, x, y, v, rfl, s, ed, ex, ey⟩
      have ht := hok _ (getD_in hi)
      have htn : ((ts.getD i 0).toNat : Int) = ts.getD i 0 := Int.toNat_of_nonneg (by have := ht.1; omega)
      have htl : (ts.getD i 0).toNat ≤ pl.length := by have := ht.2; omega
      walk_at "rd"
      refine ⟨d, _, 0, .ref x, rfl, rfl, by walk_at "sq", rfl, ?_⟩
      walk_at "rd"
      refine ⟨x, pbehind pl (ts.take i), (ts.getD i 0).toNat, false, arg3 htn.symm, ex, by rw [pbehind_length]; exact htl, by rw [pbehind_length]; omega, fun x2 H5 s5 nx2 ex2 => ?_⟩
      walk_at "rd"
      refine ⟨d, _, 1, .ref y, rfl, rfl, by walk_at "sq", rfl, ?_⟩
      walk_at "rd"
      refine ⟨y, pbbehind bl (ts.take i), (ts.getD i 0).toNat, true, arg3 htn.symm, by walk_at "hp", by rw [pbbehind_length]; omega, by rw [pbbehind_length]; omega, fun y2 H6 s6 ny2 ey2 => ?_⟩
      walk_at "rd"
      refine ⟨(by show 2 ≤ sizeLine; decide), fun d2 hd2 => ?_⟩
      refine ⟨d2, x2, y2, _, rfl, by walk_at "same", upd_same, ?_, ?_⟩
      · rw [take_snoc hi, pbehind_snoc]
        walk_at "hp"
      · rw [take_snoc hi, pbbehind_snoc]
        walk_at "hp"
    · clear ed ex ey s4 hx hy hd
      rintro σ H' ⟨d, x, y, v, rfl, s, ed, ex, ey⟩
      rw [List.take_length] at ex ey
      have e1 := s _ _ e1
      have e2 := s _ _ e2
      have e3 := s _ _ e3
      clear s
      generalize H' = H4 at *
      have r1m : ∀ z ∈ pbehind pl ts, (-12 : Int) ≤ z ∧ z ≤ 12 := fun z hz => by
        have h1 := (pbehind_ok hpl ts).mem.mp hz
        have h2 := pbehind_length pl ts
        omega
      have r2m : ∀ z ∈ pbbehind bl ts, (-12 : Int) ≤ z ∧ z ≤ 12 := fun z hz => burnt_mem (pbbehind_ok hb ts) hz
      have lr1 := pbehind_length pl ts
      have lr2 := pbbehind_length bl ts
      walk_at "rd"
      refine ⟨by decide, by decide, for_it (itr (H1 := H4)) (fun i σ H' => ∃ (v8 v9 v10 v11 : Option V), σ = [some (.ref a), some (.ref p1), some (.ref p2), some (.int M), some (.ref D), none, some (.ref d), v, v8, v9, v10, v11] ∧ Same H4 H')
        ⟨none, none, none, none, rfl, Same.refl _⟩ (fun i σ H' ⟨_, _, _, _, _, s⟩ => s) ?_ ?_⟩
      · rintro i0 σ H' hi ⟨v8, v9, v10, v11, rfl, s⟩
        have s0 := s
        have e1 := s _ _ e1
        have e2 := s _ _ e2
        have e3 := s _ _ e3
        walk_at "rd"
        intro q1 hq1
        walk_at "rd"
        intro q2 hq2
        walk_at "rd"
        intro q3 hq3
        refine ⟨(by show 3 ≤ sizeLine; decide), fun hd hhd => ?_⟩
        generalize eH : upd (upd (upd (upd H' q1 (.lst (pl.map V.int))) q2 (.lst (bl.map V.int))) q3 (.lst (ts.map V.int))) hd (.lst [V.ref q1, V.ref q2, V.ref q3]) = H5
        have s5 : Same H' H5 := by rw [← eH]; walk_at "same"
        have eh : H5 hd = some (.lst [V.ref q1, V.ref q2, V.ref q3]) := by rw [← eH]; walk_at "hp"
        have eq1 : H5 q1 = some (.lst (pl.map V.int)) := by rw [← eH]; walk_at "hp"
        have eq2 : H5 q2 = some (.lst (bl.map V.int)) := by rw [← eH]; walk_at "hp"
        have eq3 : H5 q3 = some (.lst (ts.map V.int)) := by rw [← eH]; walk_at "hp"
        clear eH
        walk_at "rd"
        refine ⟨hd, _, 0, .ref q1, rfl, rfl, by walk_at "sq", rfl, ?_⟩
        walk_at "rd"
        refine ⟨hd, _, 2, .ref q3, rfl, rfl, by walk_at "sq", rfl, ?_⟩
        walk_at "rd"
        refine ⟨q1, q3, pl, ts, rfl, eq1, eq3, by omega, fun h => absurd hpl h, fun _ _ f1 H6 s6 nf1 ef1 => ?_, fun _ h => absurd hok h⟩
        walk_at "rd"
        refine ⟨hd, _, 1, .ref q2, rfl, rfl, by walk_at "sq", rfl, ?_⟩
        walk_at "rd"
        refine ⟨hd, _, 2, .ref q3, rfl, rfl, by walk_at "sq", rfl, ?_⟩
        walk_at "rd"
        refine ⟨q2, q3, bl, ts, rfl, by walk_at "hp", by walk_at "hp", by omega, fun h => absurd hb h, fun _ _ f2 H7 s7 nf2 ef2 => ?_, fun _ h => absurd (by rw [lb]; exact hok) h⟩
        walk_at "rd"
        refine ⟨(by show 2 ≤ sizeLine; decide), fun fd hfd => ?_⟩
        have n12 : f1 ≠ f2 := ne_of_none ef1 nf2
        have ef1 := s7 _ _ ef1

        have nf1' : H5 f1 = none := nf1
        have nf2' : H5 f2 = none := s6.free nf2
        have eh7 : H7 hd = some (.lst [V.ref q1, V.ref q2, V.ref q3]) := s7 _ _ (s6 _ _ eh)
        have q17 : H7 q1 = some (.lst (pl.map V.int)) := s7 _ _ (s6 _ _ eq1)
        have q27 : H7 q2 = some (.lst (bl.map V.int)) := s7 _ _ (s6 _ _ eq2)
        have q37 : H7 q3 = some (.lst (ts.map V.int)) := s7 _ _ (s6 _ _ eq3)
        have s57 : Same H5 H7 := s6.trans s7
        have s47 : Same H4 H7 := (s.trans s5).trans s57
        clear s6 s7
        walk_at "rd"
        refine ⟨(by show 3 ≤ sizeLine; decide), fun u hu => ?_⟩
        generalize eH : upd (upd H7 fd (.lst [V.ref f1, V.ref f2])) u (.lst [V.ref p1, V.ref p2, V.ref D]) = H8
        have s8 : Same H7 H8 := by rw [← eH]; walk_at "same"
        have efd : H8 fd = some (.lst [V.ref f1, V.ref f2]) := by rw [← eH]; walk_at "hp"
        have eu : H8 u = some (.lst [V.ref p1, V.ref p2, V.ref D]) := by rw [← eH]; walk_at "hp"
        clear eH
        have s48 : Same H4 H8 := s47.trans s8
        have s58 : Same H5 H8 := s57.trans s8
        have eh8 := s8 _ _ eh7
        have q18 := s8 _ _ q17
        have q28 := s8 _ _ q27
        have q38 := s8 _ _ q37
        have g1 := s8 _ _ ef1
        have g2 := s8 _ _ ef2
        have w1 := s48 _ _ (by assumption : H4 p1 = some (.lst (pl.map V.int)))
        have w2 := s48 _ _ (by assumption : H4 p2 = some (.lst (bl.map V.int)))
        have w3 := s48 _ _ (by assumption : H4 D = some (.lst (ts.map V.int)))
        have wd := s48 _ _ ed
        have wx := s48 _ _ ex
        have wy := s48 _ _ ey
        have nfd1 : fd ≠ f1 := (ne_of_none ef1 hfd).symm
        have nfd2 : fd ≠ f2 := (ne_of_none ef2 hfd).symm
        clear s8 eh7 q17 q27 q37 s47 s57 ef1 ef2 hfd hu
        refine ne2E (ns := [pl, bl, ts]) (SqL.of eh8) (.cons (dp_D1 (SqL.of q18)) (.cons (dp_D1 (SqL.of q28)) (.cons (dp_D1 (SqL.of q38)) .nil))) (SqL.of eu) (.cons (dp_D1 (SqL.of w1)) (.cons (dp_D1 (SqL.of w2)) (.cons (dp_D1 (SqL.of w3)) .nil))) ?_
        walk_at "rd"
        refine ne2E (ns := [pbehind pl ts, pbbehind bl ts]) (SqL.of efd) (.cons (dp_D1 (SqL.of g1)) (.cons (dp_D1 (SqL.of g2)) .nil)) (SqL.of wd) (.cons (dp_D1 (SqL.of wx)) (.cons (dp_D1 (SqL.of wy)) .nil)) ?_
        walk_at "rd"
        refine ⟨⟨_, SqL.of efd⟩, for_list (K := K) (a := fd) (xs := [V.ref f1, V.ref f2])
          (fun i σ H' => ∃ (v11 : Option V), σ = [some (.ref a), some (.ref p1), some (.ref p2), some (.int M), some (.ref D), none, some (.ref d), v, some (.int (0 + (i0 : Int))), some (.ref hd), some (.ref fd), v11] ∧ Same H5 H' ∧
            H' fd = some (.lst [V.ref f1, V.ref f2]) ∧ (i = 0 → H' f1 = some (.lst ((pbehind pl ts).map V.int))) ∧ (i ≤ 1 → H' f2 = some (.lst ((pbbehind bl ts).map V.int))))
          ⟨_, rfl, s58, efd, fun _ => g1, fun _ => g2⟩ (fun i σ H' _ ⟨_, _, _, e, _⟩ => SqL.of e) ?_ ?_⟩
        · rintro i xv σ H' hx ⟨v11, rfl, s, efd, c1, c2⟩
          match i, hx with
          | 0, hx =>
            obtain rfl : V.ref f1 = xv := Option.some.inj hx
            have c1 := c1 rfl
            have c2 := c2 (by decide)
            walk_at "rd"
            refine ⟨f1, _, _, _, rfl, c1, r1m, ?_⟩
            walk_at "rd"
            refine ⟨f1, _, _, rfl, rfl, c1, len_small' (by rw [List.length_map]; omega), ?_⟩
            exact ⟨_, rfl, same_mut s nf1', upd_oth nfd1 efd, fun h => absurd h (by decide), fun _ => upd_oth n12.symm c2⟩
          | 1, hx =>
            obtain rfl : V.ref f2 = xv := Option.some.inj hx
            have c2 := c2 (by decide)
            walk_at "rd"
            refine ⟨f2, _, _, _, rfl, c2, r2m, ?_⟩
            walk_at "rd"
            refine ⟨f2, _, _, rfl, rfl, c2, len_small' (by rw [List.length_map]; omega), ?_⟩
            exact ⟨_, rfl, same_mut s nf2', upd_oth nfd2 efd, fun h => absurd h (by omega), fun h => absurd h (by omega)⟩
          | i + 2, hx => exact absurd hx (by simp)
        · rintro σ H' ⟨v11, rfl, s, efd, c1, c2⟩
          walk_at "rd"
          refine ⟨(by show 3 ≤ sizeLine; decide), fun u hu => ?_⟩
          have s9 : Same H5 (upd H' u (.lst [V.ref p1, V.ref p2, V.ref D])) := by walk_at "same"
          refine ne2E (ns := [pl, bl, ts]) (SqL.of (s9 _ _ eh)) (.cons (dp_D1 (SqL.of (s9 _ _ eq1))) (.cons (dp_D1 (SqL.of (s9 _ _ eq2))) (.cons (dp_D1 (SqL.of (s9 _ _ eq3))) .nil)))
            (SqL.of upd_same) (.cons (dp_D1 (SqL.of (s9 _ _ (s5 _ _ e1)))) (.cons (dp_D1 (SqL.of (s9 _ _ (s5 _ _ e2)))) (.cons (dp_D1 (SqL.of (s9 _ _ (s5 _ _ e3)))) .nil))) ?_
          walk_at "rd"
          exact ⟨_, _, _, _, rfl, (s0.trans s5).trans s9⟩
      · rintro σ H' ⟨v8, v9, v10, v11, rfl, s⟩
        walk_at "rd"
        exact kQ _
end
theorem all_mk {l : PySem.W.OpenLaw} {w : World} {K : PySem.W.Frag} {h : Heap} {mg : Str → Option Value} {fa : Addr}
    {f_ask_pile : Addr} {od_ask_pile an_ask_pile : Option Addr} {sl_ask_pile : Array (Option Value)} {oc_ask_pile kV_ask_pile dc_ask_pile pm_ask_pile cd_ask_pile ct_ask_pile : Value}
    {f_ask_burnt : Addr} {od_ask_burnt an_ask_burnt : Option Addr} {sl_ask_burnt : Array (Option Value)} {oc_ask_burnt kV_ask_burnt dc_ask_burnt pm_ask_burnt cd_ask_burnt ct_ask_burnt : Value}
    {f_ask_turn : Addr} {od_ask_turn an_ask_turn : Option Addr} {sl_ask_turn : Array (Option Value)} {oc_ask_turn kV_ask_turn dc_ask_turn pm_ask_turn cd_ask_turn ct_ask_turn : Value}
    {f_flipped : Addr} {od_flipped an_flipped : Option Addr} {sl_flipped : Array (Option Value)} {oc_flipped kV_flipped dc_flipped pm_flipped cd_flipped ct_flipped : Value}
    {f_burnt_flipped : Addr} {od_burnt_flipped an_burnt_flipped : Option Addr} {sl_burnt_flipped : Array (Option Value)} {oc_burnt_flipped kV_burnt_flipped dc_burnt_flipped pm_burnt_flipped cd_burnt_flipped ct_burnt_flipped : Value}
    {f_behind : Addr} {od_behind an_behind : Option Addr} {sl_behind : Array (Option Value)} {oc_behind kV_behind dc_behind pm_behind cd_behind ct_behind : Value}
    {f_burnt_behind : Addr} {od_burnt_behind an_burnt_behind : Option Addr} {sl_burnt_behind : Array (Option Value)} {oc_burnt_behind kV_burnt_behind dc_burnt_behind pm_burnt_behind cd_burnt_behind ct_burnt_behind : Value}
    {f__law_cell_at : Addr} {od__law_cell_at an__law_cell_at : Option Addr} {sl__law_cell_at : Array (Option Value)} {oc__law_cell_at kV__law_cell_at dc__law_cell_at pm__law_cell_at cd__law_cell_at ct__law_cell_at : Value}
    {f__law_whole : Addr} {od__law_whole an__law_whole : Option Addr} {sl__law_whole : Array (Option Value)} {oc__law_whole kV__law_whole dc__law_whole pm__law_whole cd__law_whole ct__law_whole : Value}
    {f__law_pile : Addr} {od__law_pile an__law_pile : Option Addr} {sl__law_pile : Array (Option Value)} {oc__law_pile kV__law_pile dc__law_pile pm__law_pile cd__law_pile ct__law_pile : Value}
    {f__law_burnt : Addr} {od__law_burnt an__law_burnt : Option Addr} {sl__law_burnt : Array (Option Value)} {oc__law_burnt kV__law_burnt dc__law_burnt pm__law_burnt cd__law_burnt ct__law_burnt : Value}
    {f__law_turned : Addr} {od__law_turned an__law_turned : Option Addr} {sl__law_turned : Array (Option Value)} {oc__law_turned kV__law_turned dc__law_turned pm__law_turned cd__law_turned ct__law_turned : Value}
    {f__law_numbers : Addr} {od__law_numbers an__law_numbers : Option Addr} {sl__law_numbers : Array (Option Value)} {oc__law_numbers kV__law_numbers dc__law_numbers pm__law_numbers cd__law_numbers ct__law_numbers : Value}
    {f_law : Addr} {od_law an_law : Option Addr} {sl_law : Array (Option Value)} {oc_law kV_law dc_law pm_law cd_law ct_law : Value}
    {t_MOST : Tok}
    {C_FlipError : Addr}
    {C_NoPile : Addr}
    {C_NoTurn : Addr}
    (X : K.In h) (G : h.Ns mainGlobals mg) (hfa : mg "law" = some (.ref fa))
    (a_ask_pile : PySem.W.nsIn K mainGlobals "ask_pile" = some (some (.ref f_ask_pile)))
    (l_ask_pile : K.lookup f_ask_pile = some ⟨oc_ask_pile, od_ask_pile, .func (PySem.W.fnOf "ask_pile" "ask_pile" (defArgs s_ask_pile) (defBody s_ask_pile) (defScope s_ask_pile) .none kV_ask_pile dc_ask_pile pm_ask_pile an_ask_pile cd_ask_pile ct_ask_pile), sl_ask_pile⟩)
    (c_ask_pile : PySem.W.codeIn K cd_ask_pile "ask_pile" = true) (k_ask_pile : PySem.W.keepIn K (.ref f_ask_pile) = true)
    (a_ask_burnt : PySem.W.nsIn K mainGlobals "ask_burnt" = some (some (.ref f_ask_burnt)))
    (l_ask_burnt : K.lookup f_ask_burnt = some ⟨oc_ask_burnt, od_ask_burnt, .func (PySem.W.fnOf "ask_burnt" "ask_burnt" (defArgs s_ask_burnt) (defBody s_ask_burnt) (defScope s_ask_burnt) .none kV_ask_burnt dc_ask_burnt pm_ask_burnt an_ask_burnt cd_ask_burnt ct_ask_burnt), sl_ask_burnt⟩)
    (c_ask_burnt : PySem.W.codeIn K cd_ask_burnt "ask_burnt" = true) (k_ask_burnt : PySem.W.keepIn K (.ref f_ask_burnt) = true)
    (a_ask_turn : PySem.W.nsIn K mainGlobals "ask_turn" = some (some (.ref f_ask_turn)))
    (l_ask_turn : K.lookup f_ask_turn = some ⟨oc_ask_turn, od_ask_turn, .func (PySem.W.fnOf "ask_turn" "ask_turn" (defArgs s_ask_turn) (defBody s_ask_turn) (defScope s_ask_turn) .none kV_ask_turn dc_ask_turn pm_ask_turn an_ask_turn cd_ask_turn ct_ask_turn), sl_ask_turn⟩)
    (c_ask_turn : PySem.W.codeIn K cd_ask_turn "ask_turn" = true) (k_ask_turn : PySem.W.keepIn K (.ref f_ask_turn) = true)
    (a_flipped : PySem.W.nsIn K mainGlobals "flipped" = some (some (.ref f_flipped)))
    (l_flipped : K.lookup f_flipped = some ⟨oc_flipped, od_flipped, .func (PySem.W.fnOf "flipped" "flipped" (defArgs s_flipped) (defBody s_flipped) (defScope s_flipped) .none kV_flipped dc_flipped pm_flipped an_flipped cd_flipped ct_flipped), sl_flipped⟩)
    (c_flipped : PySem.W.codeIn K cd_flipped "flipped" = true) (k_flipped : PySem.W.keepIn K (.ref f_flipped) = true)
    (a_burnt_flipped : PySem.W.nsIn K mainGlobals "burnt_flipped" = some (some (.ref f_burnt_flipped)))
    (l_burnt_flipped : K.lookup f_burnt_flipped = some ⟨oc_burnt_flipped, od_burnt_flipped, .func (PySem.W.fnOf "burnt_flipped" "burnt_flipped" (defArgs s_burnt_flipped) (defBody s_burnt_flipped) (defScope s_burnt_flipped) .none kV_burnt_flipped dc_burnt_flipped pm_burnt_flipped an_burnt_flipped cd_burnt_flipped ct_burnt_flipped), sl_burnt_flipped⟩)
    (c_burnt_flipped : PySem.W.codeIn K cd_burnt_flipped "burnt_flipped" = true) (k_burnt_flipped : PySem.W.keepIn K (.ref f_burnt_flipped) = true)
    (a_behind : PySem.W.nsIn K mainGlobals "behind" = some (some (.ref f_behind)))
    (l_behind : K.lookup f_behind = some ⟨oc_behind, od_behind, .func (PySem.W.fnOf "behind" "behind" (defArgs s_behind) (defBody s_behind) (defScope s_behind) .none kV_behind dc_behind pm_behind an_behind cd_behind ct_behind), sl_behind⟩)
    (c_behind : PySem.W.codeIn K cd_behind "behind" = true) (k_behind : PySem.W.keepIn K (.ref f_behind) = true)
    (a_burnt_behind : PySem.W.nsIn K mainGlobals "burnt_behind" = some (some (.ref f_burnt_behind)))
    (l_burnt_behind : K.lookup f_burnt_behind = some ⟨oc_burnt_behind, od_burnt_behind, .func (PySem.W.fnOf "burnt_behind" "burnt_behind" (defArgs s_burnt_behind) (defBody s_burnt_behind) (defScope s_burnt_behind) .none kV_burnt_behind dc_burnt_behind pm_burnt_behind an_burnt_behind cd_burnt_behind ct_burnt_behind), sl_burnt_behind⟩)
    (c_burnt_behind : PySem.W.codeIn K cd_burnt_behind "burnt_behind" = true) (k_burnt_behind : PySem.W.keepIn K (.ref f_burnt_behind) = true)
    (a__law_cell_at : PySem.W.nsIn K mainGlobals "_law_cell_at" = some (some (.ref f__law_cell_at)))
    (l__law_cell_at : K.lookup f__law_cell_at = some ⟨oc__law_cell_at, od__law_cell_at, .func (PySem.W.fnOf "_law_cell_at" "_law_cell_at" (defArgs s__law_cell_at) (defBody s__law_cell_at) (defScope s__law_cell_at) .none kV__law_cell_at dc__law_cell_at pm__law_cell_at an__law_cell_at cd__law_cell_at ct__law_cell_at), sl__law_cell_at⟩)
    (c__law_cell_at : PySem.W.codeIn K cd__law_cell_at "_law_cell_at" = true) (k__law_cell_at : PySem.W.keepIn K (.ref f__law_cell_at) = true)
    (a__law_whole : PySem.W.nsIn K mainGlobals "_law_whole" = some (some (.ref f__law_whole)))
    (l__law_whole : K.lookup f__law_whole = some ⟨oc__law_whole, od__law_whole, .func (PySem.W.fnOf "_law_whole" "_law_whole" (defArgs s__law_whole) (defBody s__law_whole) (defScope s__law_whole) .none kV__law_whole dc__law_whole pm__law_whole an__law_whole cd__law_whole ct__law_whole), sl__law_whole⟩)
    (c__law_whole : PySem.W.codeIn K cd__law_whole "_law_whole" = true) (k__law_whole : PySem.W.keepIn K (.ref f__law_whole) = true)
    (a__law_pile : PySem.W.nsIn K mainGlobals "_law_pile" = some (some (.ref f__law_pile)))
    (l__law_pile : K.lookup f__law_pile = some ⟨oc__law_pile, od__law_pile, .func (PySem.W.fnOf "_law_pile" "_law_pile" (defArgs s__law_pile) (defBody s__law_pile) (defScope s__law_pile) .none kV__law_pile dc__law_pile pm__law_pile an__law_pile cd__law_pile ct__law_pile), sl__law_pile⟩)
    (c__law_pile : PySem.W.codeIn K cd__law_pile "_law_pile" = true) (k__law_pile : PySem.W.keepIn K (.ref f__law_pile) = true)
    (a__law_burnt : PySem.W.nsIn K mainGlobals "_law_burnt" = some (some (.ref f__law_burnt)))
    (l__law_burnt : K.lookup f__law_burnt = some ⟨oc__law_burnt, od__law_burnt, .func (PySem.W.fnOf "_law_burnt" "_law_burnt" (defArgs s__law_burnt) (defBody s__law_burnt) (defScope s__law_burnt) .none kV__law_burnt dc__law_burnt pm__law_burnt an__law_burnt cd__law_burnt ct__law_burnt), sl__law_burnt⟩)
    (c__law_burnt : PySem.W.codeIn K cd__law_burnt "_law_burnt" = true) (k__law_burnt : PySem.W.keepIn K (.ref f__law_burnt) = true)
    (a__law_turned : PySem.W.nsIn K mainGlobals "_law_turned" = some (some (.ref f__law_turned)))
    (l__law_turned : K.lookup f__law_turned = some ⟨oc__law_turned, od__law_turned, .func (PySem.W.fnOf "_law_turned" "_law_turned" (defArgs s__law_turned) (defBody s__law_turned) (defScope s__law_turned) .none kV__law_turned dc__law_turned pm__law_turned an__law_turned cd__law_turned ct__law_turned), sl__law_turned⟩)
    (c__law_turned : PySem.W.codeIn K cd__law_turned "_law_turned" = true) (k__law_turned : PySem.W.keepIn K (.ref f__law_turned) = true)
    (a__law_numbers : PySem.W.nsIn K mainGlobals "_law_numbers" = some (some (.ref f__law_numbers)))
    (l__law_numbers : K.lookup f__law_numbers = some ⟨oc__law_numbers, od__law_numbers, .func (PySem.W.fnOf "_law_numbers" "_law_numbers" (defArgs s__law_numbers) (defBody s__law_numbers) (defScope s__law_numbers) .none kV__law_numbers dc__law_numbers pm__law_numbers an__law_numbers cd__law_numbers ct__law_numbers), sl__law_numbers⟩)
    (c__law_numbers : PySem.W.codeIn K cd__law_numbers "_law_numbers" = true) (k__law_numbers : PySem.W.keepIn K (.ref f__law_numbers) = true)
    (a_law : PySem.W.nsIn K mainGlobals "law" = some (some (.ref f_law)))
    (l_law : K.lookup f_law = some ⟨oc_law, od_law, .func (PySem.W.fnOf "law" "law" (defArgs s_law) (defBody s_law) (defScope s_law) .none kV_law dc_law pm_law an_law cd_law ct_law), sl_law⟩)
    (c_law : PySem.W.codeIn K cd_law "law" = true) (k_law : PySem.W.keepIn K (.ref f_law) = true)
    (z_abs : PySem.W.nsIn K mainGlobals "abs" = some none)
    (z_bool : PySem.W.nsIn K mainGlobals "bool" = some none)
    (z_int : PySem.W.nsIn K mainGlobals "int" = some none)
    (z_isinstance : PySem.W.nsIn K mainGlobals "isinstance" = some none)
    (z_len : PySem.W.nsIn K mainGlobals "len" = some none)
    (z_list : PySem.W.nsIn K mainGlobals "list" = some none)
    (z_range : PySem.W.nsIn K mainGlobals "range" = some none)
    (z_reversed : PySem.W.nsIn K mainGlobals "reversed" = some none)
    (z_sorted : PySem.W.nsIn K mainGlobals "sorted" = some none)
    (m_MOST : PySem.W.nsIn K mainGlobals "MOST" = some (some (.int 12 t_MOST)))
    (g_FlipError : PySem.W.nsIn K mainGlobals "FlipError" = some (some (.ref C_FlipError)))
    (x_FlipError : PySem.W.excIn K C_FlipError [.type "ValueError", .type "Exception", .type "BaseException", .type "object"] "ValueError.__new__" = true)
    (kk_FlipError : PySem.W.keepIn K (.ref C_FlipError) = true) (bb_FlipError : PySem.W.subIn K (.ref C_FlipError) (.type "BaseException") = some true) (tt_FlipError : PySem.W.typeIn K (.ref C_FlipError) = some (.type "type"))
    (g_NoPile : PySem.W.nsIn K mainGlobals "NoPile" = some (some (.ref C_NoPile)))
    (x_NoPile : PySem.W.excIn K C_NoPile [.type "ValueError", .type "Exception", .type "BaseException", .type "object"] "ValueError.__new__" = true)
    (kk_NoPile : PySem.W.keepIn K (.ref C_NoPile) = true) (bb_NoPile : PySem.W.subIn K (.ref C_NoPile) (.type "BaseException") = some true) (tt_NoPile : PySem.W.typeIn K (.ref C_NoPile) = some (.type "type"))
    (g_NoTurn : PySem.W.nsIn K mainGlobals "NoTurn" = some (some (.ref C_NoTurn)))
    (x_NoTurn : PySem.W.excIn K C_NoTurn [.type "ValueError", .type "Exception", .type "BaseException", .type "object"] "ValueError.__new__" = true)
    (kk_NoTurn : PySem.W.keepIn K (.ref C_NoTurn) = true) (bb_NoTurn : PySem.W.subIn K (.ref C_NoTurn) (.type "BaseException") = some true) (tt_NoTurn : PySem.W.typeIn K (.ref C_NoTurn) = some (.type "type")) :
    ∃ fd : FuncData, (∀ (s : Shared) (v : Value), BindsTo s fd ⟨[v], []⟩ [("script", v)]) ∧ ∀ base : Heap, K.In base → base.Ns mainGlobals mg → FnOk l.prog w K mg base (L2.CX l.prog w) 4 fa fd ["script"] (sp_law K) := by
  have e := hfa.symm.trans (PySem.W.mg_of X G a_law)
  cases e
  have T : Txt K mg ⟨C_FlipError, C_NoPile, C_NoTurn, 0, 0, 0⟩ := { dum := True.intro, z_abs := PySem.W.mg_none_of X G z_abs, z_bool := PySem.W.mg_none_of X G z_bool, z_int := PySem.W.mg_none_of X G z_int, z_isinstance := PySem.W.mg_none_of X G z_isinstance, z_len := PySem.W.mg_none_of X G z_len, z_list := PySem.W.mg_none_of X G z_list, z_range := PySem.W.mg_none_of X G z_range, z_reversed := PySem.W.mg_none_of X G z_reversed, z_sorted := PySem.W.mg_none_of X G z_sorted, m_MOST := ⟨_, PySem.W.mg_of X G m_MOST⟩, e_FlipError := ⟨PySem.W.mg_of X G g_FlipError, x_FlipError, kk_FlipError, bb_FlipError, tt_FlipError⟩, e_NoPile := ⟨PySem.W.mg_of X G g_NoPile, x_NoPile, kk_NoPile, bb_NoPile, tt_NoPile⟩, e_NoTurn := ⟨PySem.W.mg_of X G g_NoTurn, x_NoTurn, kk_NoTurn, bb_NoTurn, tt_NoTurn⟩ }
  have F_ask_pile := fun_mk (st := s_ask_pile) l_ask_pile c_ask_pile k_ask_pile
  have b_ask_pile := F_ask_pile.binds (ps := ["pile"]) fun _ _ _ _ _ _ us hl => match us, hl with | [_], _ => rfl
  have F_ask_burnt := fun_mk (st := s_ask_burnt) l_ask_burnt c_ask_burnt k_ask_burnt
  have b_ask_burnt := F_ask_burnt.binds (ps := ["pile"]) fun _ _ _ _ _ _ us hl => match us, hl with | [_], _ => rfl
  have F_ask_turn := fun_mk (st := s_ask_turn) l_ask_turn c_ask_turn k_ask_turn
  have b_ask_turn := F_ask_turn.binds (ps := ["pile", "turn"]) fun _ _ _ _ _ _ us hl => match us, hl with | [_, _], _ => rfl
  have F_flipped := fun_mk (st := s_flipped) l_flipped c_flipped k_flipped
  have b_flipped := F_flipped.binds (ps := ["pile", "turn"]) fun _ _ _ _ _ _ us hl => match us, hl with | [_, _], _ => rfl
  have F_burnt_flipped := fun_mk (st := s_burnt_flipped) l_burnt_flipped c_burnt_flipped k_burnt_flipped
  have b_burnt_flipped := F_burnt_flipped.binds (ps := ["pile", "turn"]) fun _ _ _ _ _ _ us hl => match us, hl with | [_, _], _ => rfl
  have F_behind := fun_mk (st := s_behind) l_behind c_behind k_behind
  have b_behind := F_behind.binds (ps := ["pile", "turns"]) fun _ _ _ _ _ _ us hl => match us, hl with | [_, _], _ => rfl
  have F_burnt_behind := fun_mk (st := s_burnt_behind) l_burnt_behind c_burnt_behind k_burnt_behind
  have b_burnt_behind := F_burnt_behind.binds (ps := ["pile", "turns"]) fun _ _ _ _ _ _ us hl => match us, hl with | [_, _], _ => rfl
  have F__law_cell_at := fun_mk (st := s__law_cell_at) l__law_cell_at c__law_cell_at k__law_cell_at
  have b__law_cell_at := F__law_cell_at.binds (ps := ["script", "k"]) fun _ _ _ _ _ _ us hl => match us, hl with | [_, _], _ => rfl
  have F__law_whole := fun_mk (st := s__law_whole) l__law_whole c__law_whole k__law_whole
  have b__law_whole := F__law_whole.binds (ps := ["found"]) fun _ _ _ _ _ _ us hl => match us, hl with | [_], _ => rfl
  have F__law_pile := fun_mk (st := s__law_pile) l__law_pile c__law_pile k__law_pile
  have b__law_pile := F__law_pile.binds (ps := ["script", "at", "most"]) fun _ _ _ _ _ _ us hl => match us, hl with | [_, _, _], _ => rfl
  have F__law_burnt := fun_mk (st := s__law_burnt) l__law_burnt c__law_burnt k__law_burnt
  have b__law_burnt := F__law_burnt.binds (ps := ["pile", "cell"]) fun _ _ _ _ _ _ us hl => match us, hl with | [_, _], _ => rfl
  have F__law_turned := fun_mk (st := s__law_turned) l__law_turned c__law_turned k__law_turned
  have b__law_turned := F__law_turned.binds (ps := ["pile", "turn", "burnt"]) fun _ _ _ _ _ _ us hl => match us, hl with | [_, _, _], _ => rfl
  have F__law_numbers := fun_mk (st := s__law_numbers) l__law_numbers c__law_numbers k__law_numbers
  have b__law_numbers := F__law_numbers.binds (ps := ["found", "low", "high"]) fun _ _ _ _ _ _ us hl => match us, hl with | [_, _, _], _ => rfl
  have F_law := fun_mk (st := s_law) l_law c_law k_law
  refine ⟨PySem.W.fnOf "law" "law" (defArgs s_law) (defBody s_law) (defScope s_law) .none kV_law dc_law pm_law an_law cd_law ct_law, fun s v => .of_eq rfl, fun base _ _ => ?_⟩
  have G_ask_pile : Cal l.prog w K mg base "ask_pile" 1 ["pile"] (sp_ask_pile (⟨C_FlipError, C_NoPile, C_NoTurn, 0, 0, 0⟩ : ExA).NoPile) := ⟨_, _, ok_ask_pile T F_ask_pile, PySem.W.mg_of X G a_ask_pile, k_ask_pile, b_ask_pile⟩
  have G_ask_burnt : Cal l.prog w K mg base "ask_burnt" 2 ["pile"] (sp_ask_burnt (⟨C_FlipError, C_NoPile, C_NoTurn, 0, 0, 0⟩ : ExA).NoPile) := ⟨_, _, ok_ask_burnt T F_ask_burnt G_ask_pile, PySem.W.mg_of X G a_ask_burnt, k_ask_burnt, b_ask_burnt⟩
  have G_ask_turn : Cal l.prog w K mg base "ask_turn" 1 ["pile", "turn"] (sp_ask_turn (⟨C_FlipError, C_NoPile, C_NoTurn, 0, 0, 0⟩ : ExA).NoTurn) := ⟨_, _, ok_ask_turn T F_ask_turn, PySem.W.mg_of X G a_ask_turn, k_ask_turn, b_ask_turn⟩
  have G_flipped : Cal l.prog w K mg base "flipped" 1 ["pile", "turn"] sp_flipped := ⟨_, _, ok_flipped T F_flipped, PySem.W.mg_of X G a_flipped, k_flipped, b_flipped⟩
  have G_burnt_flipped : Cal l.prog w K mg base "burnt_flipped" 1 ["pile", "turn"] (sp_burnt_flipped K) := ⟨_, _, ok_burnt_flipped T F_burnt_flipped, PySem.W.mg_of X G a_burnt_flipped, k_burnt_flipped, b_burnt_flipped⟩
  have G_behind : Cal l.prog w K mg base "behind" 2 ["pile", "turns"] (sp_behind (⟨C_FlipError, C_NoPile, C_NoTurn, 0, 0, 0⟩ : ExA).NoPile (⟨C_FlipError, C_NoPile, C_NoTurn, 0, 0, 0⟩ : ExA).NoTurn) := ⟨_, _, ok_behind T F_behind G_ask_pile G_ask_turn G_flipped, PySem.W.mg_of X G a_behind, k_behind, b_behind⟩
  have G_burnt_behind : Cal l.prog w K mg base "burnt_behind" 3 ["pile", "turns"] (sp_burnt_behind (⟨C_FlipError, C_NoPile, C_NoTurn, 0, 0, 0⟩ : ExA).NoPile (⟨C_FlipError, C_NoPile, C_NoTurn, 0, 0, 0⟩ : ExA).NoTurn) := ⟨_, _, ok_burnt_behind T F_burnt_behind G_ask_burnt G_ask_turn G_burnt_flipped, PySem.W.mg_of X G a_burnt_behind, k_burnt_behind, b_burnt_behind⟩
  have G__law_cell_at : Cal l.prog w K mg base "_law_cell_at" 1 ["script", "k"] (sp_cell K) := ⟨_, _, ok__law_cell_at T F__law_cell_at, PySem.W.mg_of X G a__law_cell_at, k__law_cell_at, b__law_cell_at⟩
  have G__law_whole : Cal l.prog w K mg base "_law_whole" 1 ["found"] sp_whole := ⟨_, _, ok__law_whole T F__law_whole, PySem.W.mg_of X G a__law_whole, k__law_whole, b__law_whole⟩
  have G__law_pile : Cal l.prog w K mg base "_law_pile" 2 ["script", "at", "most"] (sp_pile K) := ⟨_, _, ok__law_pile T F__law_pile G__law_cell_at, PySem.W.mg_of X G a__law_pile, k__law_pile, b__law_pile⟩
  have G__law_burnt : Cal l.prog w K mg base "_law_burnt" 1 ["pile", "cell"] sp__law_burnt := ⟨_, _, ok__law_burnt T F__law_burnt, PySem.W.mg_of X G a__law_burnt, k__law_burnt, b__law_burnt⟩
  have G__law_turned : Cal l.prog w K mg base "_law_turned" 1 ["pile", "turn", "burnt"] sp_turned := ⟨_, _, ok__law_turned T F__law_turned, PySem.W.mg_of X G a__law_turned, k__law_turned, b__law_turned⟩
  have G__law_numbers : Cal l.prog w K mg base "_law_numbers" 2 ["found", "low", "high"] sp_numbers := ⟨_, _, ok__law_numbers T F__law_numbers G__law_whole, PySem.W.mg_of X G a__law_numbers, k__law_numbers, b__law_numbers⟩
  exact ok_law T F_law G__law_pile G__law_burnt G__law_cell_at G__law_turned G_behind G_burnt_behind G__law_numbers
theorem walk {l : PySem.W.OpenLaw} {q : Program} {loose : List Str} {XP : (Str → Option Value) → Heap → Prop} {YP : World → Heap → Prop} {d : DefRec} {K : Params → PySem.W.Frag} (hn : l.most = some 63) (hdf : d.params.defaults = [])
    (hY : ∀ (w : World) (h : Heap), YP w h → (K w.params).In h)
    (F : ∀ (w : World) (mg : Str → Option Value) (fa : Addr) (h : Heap), (K w.params).In h → h.Ns mainGlobals mg → mg d.name = some (.ref fa) →
      ∃ fd : FuncData, (∀ (s : Shared) (u : Value), BindsTo s fd ⟨[u], []⟩ [("script", u)]) ∧ ∀ base : Heap, (K w.params).In base → base.Ns mainGlobals mg → FnOk l.prog w (K w.params) mg base (L2.CX l.prog w) 4 fa fd ["script"] (sp_law (K w.params))) :
    PySem.W.WalkO q loose XP YP l.row.toRowW d [] (fun f vs => PySem.call f vs) :=
  L2.walk_of (n := 63) (k := 4) (x := "script") (CX := fun w => L2.CX l.prog w) (sp := fun w => sp_law (K w.params)) hn (by decide) hdf ⟨rfl, by decide, by decide⟩ hY F (fun _ _ a ns hl _ hS => ⟨a, ns, rfl, hS, hl, fun _ => rfl⟩) fun _ _ _ _ _ h => by
    obtain ⟨_, _, _, _, _, _, _, _, _, _, _, _, z⟩ := h
    exact z
end Toy
open PySem PySem.W PyProof.Rows in
set_option maxRecDepth 100000 in
set_option maxHeartbeats 0 in
theorem PySem.Challenge.cw_flipstack_k01_piles_turned_holds : PySem.Challenge.rw_flipstack_k01_piles_turned.Holds := by
  w_on; o_law; k_head; (case hw => w_witness2)
  k_fill
  refine Toy.walk (l := PySem.Challenge.rw_flipstack_k01_piles_turned) rfl rfl (fun w h Y => PySem.W.kIn_of Y) ?F
  case F =>
    intro w mg fa h KX G hmg
    refine' Toy.all_mk KX G hmg ?a_ask_pile ?l_ask_pile ?c_ask_pile ?k_ask_pile ?a_ask_burnt ?l_ask_burnt ?c_ask_burnt ?k_ask_burnt ?a_ask_turn ?l_ask_turn ?c_ask_turn ?k_ask_turn ?a_flipped ?l_flipped ?c_flipped ?k_flipped ?a_burnt_flipped ?l_burnt_flipped ?c_burnt_flipped ?k_burnt_flipped ?a_behind ?l_behind ?c_behind ?k_behind ?a_burnt_behind ?l_burnt_behind ?c_burnt_behind ?k_burnt_behind ?a__law_cell_at ?l__law_cell_at ?c__law_cell_at ?k__law_cell_at ?a__law_whole ?l__law_whole ?c__law_whole ?k__law_whole ?a__law_pile ?l__law_pile ?c__law_pile ?k__law_pile ?a__law_burnt ?l__law_burnt ?c__law_burnt ?k__law_burnt ?a__law_turned ?l__law_turned ?c__law_turned ?k__law_turned ?a__law_numbers ?l__law_numbers ?c__law_numbers ?k__law_numbers ?a_law ?l_law ?c_law ?k_law ?z_abs ?z_bool ?z_int ?z_isinstance ?z_len ?z_list ?z_range ?z_reversed ?z_sorted ?m_MOST ?g_FlipError ?x_FlipError ?kk_FlipError ?bb_FlipError ?tt_FlipError ?g_NoPile ?x_NoPile ?kk_NoPile ?bb_NoPile ?tt_NoPile ?g_NoTurn ?x_NoTurn ?kk_NoTurn ?bb_NoTurn ?tt_NoTurn
    (case a_ask_pile => k_is)
    (case l_ask_pile => k_is)
    (case c_ask_pile => k_is)
    (case k_ask_pile => k_is)
    (case a_ask_burnt => k_is)
    (case l_ask_burnt => k_is)
    (case c_ask_burnt => k_is)
    (case k_ask_burnt => k_is)
    (case a_ask_turn => k_is)
    (case l_ask_turn => k_is)
    (case c_ask_turn => k_is)
    (case k_ask_turn => k_is)
    (case a_flipped => k_is)
    (case l_flipped => k_is)
    (case c_flipped => k_is)
    (case k_flipped => k_is)
    (case a_burnt_flipped => k_is)
    (case l_burnt_flipped => k_is)
    (case c_burnt_flipped => k_is)
    (case k_burnt_flipped => k_is)
    (case a_behind => k_is)
    (case l_behind => k_is)
    (case c_behind => k_is)
    (case k_behind => k_is)
    (case a_burnt_behind => k_is)
    (case l_burnt_behind => k_is)
    (case c_burnt_behind => k_is)
    (case k_burnt_behind => k_is)
    (case a__law_cell_at => k_is)
    (case l__law_cell_at => k_is)
    (case c__law_cell_at => k_is)
    (case k__law_cell_at => k_is)
    (case a__law_whole => k_is)
    (case l__law_whole => k_is)
    (case c__law_whole => k_is)
    (case k__law_whole => k_is)
    (case a__law_pile => k_is)
    (case l__law_pile => k_is)
    (case c__law_pile => k_is)
    (case k__law_pile => k_is)
    (case a__law_burnt => k_is)
    (case l__law_burnt => k_is)
    (case c__law_burnt => k_is)
    (case k__law_burnt => k_is)
    (case a__law_turned => k_is)
    (case l__law_turned => k_is)
    (case c__law_turned => k_is)
    (case k__law_turned => k_is)
    (case a__law_numbers => k_is)
    (case l__law_numbers => k_is)
    (case c__law_numbers => k_is)
    (case k__law_numbers => k_is)
    (case a_law => k_is)
    (case l_law => k_is)
    (case c_law => k_is)
    (case k_law => k_is)
    (case z_abs => k_is)
    (case z_bool => k_is)
    (case z_int => k_is)
    (case z_isinstance => k_is)
    (case z_len => k_is)
    (case z_list => k_is)
    (case z_range => k_is)
    (case z_reversed => k_is)
    (case z_sorted => k_is)
    (case m_MOST => k_is)
    (case g_FlipError => k_is)
    (case x_FlipError => first | k_exc | k_is)
    (case kk_FlipError => k_is)
    (case bb_FlipError => first | rfl | k_is)
    (case tt_FlipError => k_is)
    (case g_NoPile => k_is)
    (case x_NoPile => first | k_exc | k_is)
    (case kk_NoPile => k_is)
    (case bb_NoPile => first | rfl | k_is)
    (case tt_NoPile => k_is)
    (case g_NoTurn => k_is)
    (case x_NoTurn => first | k_exc | k_is)
    (case kk_NoTurn => k_is)
    (case bb_NoTurn => first | rfl | k_is)
    (case tt_NoTurn => k_is)
#print axioms PySem.Challenge.cw_flipstack_k01_piles_turned_holds
