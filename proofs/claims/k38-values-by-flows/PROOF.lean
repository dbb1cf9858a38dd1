import PyProof.Rows.All
import Wide.All
import OpenK.AllK
import Wide.FinOn
import KE.KStateDown
import HandS.ForMost
import HandS.Walk
import HandS.TupAny
import HandS.Zip
import HandS.Wide
import HandS.Defaults
import HandS.Strs
import HandS.Records
import HandS.Dict
import HandS.DictComp
import HandS.IsInst
import HandS.TupLen
import HandS.TupMul
import HandS.Codes
import HandS.Conv
import KE.GoesEnum
import HandS.RevRange
import HandS.Head0
import HandS.Head1
import HandS.Head2
import HandS.HeadEnd
import HandS.HeadHook1
import HandS.HeadHook2
import HandS.More
import HandS.Rev
import PyProof.ListRange
import HandS.TupLe
import PyProof.P3In
import HandS.MakeKwOnly
import HandS.Deep
import PySem.Challenge.RW_ledgerproof_k38_whole_values_by_flows
set_option Elab.async false
set_option linter.all false
set_option maxRecDepth 100000
set_option maxHeartbeats 4000000
set_option exponentiation.threshold 2000
/-! Tuples whose object is known: made so, read so. -/
namespace Mir
open PySem PySem.Spec PyProof.Rows L2
def FzT (o : Obj) : Prop := o.cls = .type "tuple" ∧ o.dict = none
def TupAt (H : Hp) (a : Addr) (xs : List V) : Prop := ∃ o, H a = some (.frz o (.tup xs)) ∧ FzT o
theorem TupAt.sq {K : PySem.W.Frag} {H : Hp} {a : Addr} {xs : List V} (h : TupAt H a xs) : SqT K H a xs :=
  let ⟨o, e, _⟩ := h; .inl (.inr ⟨o, e⟩)
/-- what a maker of a tuple gives -/
def NewT (H : Hp) (xs : List V) (Q : VK) : Prop := ∀ p o, H p = none → FzT o → Q (.ref p) (upd H p (.frz o (.tup xs)))
section
variable {X : Cx} {pins : List (Addr × Obj)} {σ : L2.St} {H : Hp} {s : Shared}
theorem laidT {us : List Value} {xs : List V} (I : Inv X pins σ H s) (r : Vals xs us) (hz : xs.length ≤ sizeLine) {Q : VK} (q : NewT H xs Q) :
    ∃ y H', Inv X pins σ H' { s with heap := s.heap.push { cls := .type "tuple", data := .seq us.toArray } } ∧ RelV y (.ref s.heap.objs.size) ∧ Q y H' := by
  have hf : H s.heap.objs.size = none := I.hok.fresh (Nat.le_refl _)
  refine ⟨.ref s.heap.objs.size, upd H s.heap.objs.size (.frz { cls := .type "tuple", data := .seq us.toArray } (.tup xs)), I.laid (t' := s.toks) (fun b u e => Heap.get?_push_of_some _ e) (Nat.le_refl _) ?_, rfl, q _ _ hf ⟨rfl, rfl⟩⟩
  exact ⟨Heap.get?_push_size _ rfl, hz, us, r, ⟨_, Heap.get?_push_size _ rfl, rfl, _, rfl⟩⟩
end
section
variable {X : Cx} {es : List Expr} {t : TA} {pos : Pos}
def tTupF (t : TA) : TE := fun σ H Q => t σ H fun xs H1 => xs.length ≤ sizeLine ∧ NewT H1 xs Q
theorem pe_tupF {x1} (h : PA X es t) : PE X (.Tuple es x1 pos) (tTupF t) := by
  refine ⟨fun pins s σ H Q I hq => ?_⟩
  refine wpAny_Tuple_spliced (thn (h.run pos pins s σ H _ I hq) fun us s1 ⟨xs, H1, I1, r, z, q⟩ => ⟨by rw [← r.length]; exact z, ?_⟩)
  exact laidT I1 r z q
def rTupOf (K : PySem.W.Frag) : List V → Hp → VK → Prop := fun xs H Q => ∃ p ys, xs = [.ref p] ∧ ((SqL K H p ys ∧ NewT H ys Q) ∨ (SqT K H p ys ∧ Q (.ref p) H))
theorem call_tuple_ofF : CallR X (.type "tuple") (rTupOf X.K) := by
  intro pins s σ H xs us Q I r h
  obtain ⟨p, ys, rfl, h⟩ := h
  obtain ⟨u, rfl, rx⟩ := vals1 r
  cases rx
  rcases h with ⟨hq, q⟩ | ⟨hq, q⟩
  · obtain ⟨its, r', pl, hz⟩ := I.list hq
    have hlen := r'.length
    refine call_tuple_list pl.isList (fun h' kp => ?_) (by simp only [List.size_toArray] <;> omega)
    have I1 : Inv X pins σ H { s with heap := h' } := I.kept (t' := s.toks) kp
    exact laidT I1 r' hz q
  · obtain ⟨its, r', pl, hz⟩ := I.tuple hq
    exact call_tuple_same pl ⟨.ref p, H, I, rfl, q⟩
def rCatF (K : PySem.W.Frag) : R2 := fun x y H Q => ∃ a b xs ys, x = .ref a ∧ y = .ref b ∧ SqT K H a xs ∧ SqT K H b ys ∧ xs.length + ys.length ≤ sizeLine ∧
  (xs = [] → Q (.ref b) H) ∧ (xs ≠ [] → ys = [] → Q (.ref a) H) ∧ (xs ≠ [] → ys ≠ [] → NewT H (xs ++ ys) Q)
theorem op_catF : OpR X (binaryOp .Add) (rCatF X.K) := by
  intro pins s σ H x y v u Q I rx ry h
  obtain ⟨a, b, xs, ys, rfl, rfl, ha, hb, hz, q0, q1, q2⟩ := h
  by_cases hx : xs = []
  · subst hx
    cases rx
    cases ry
    obtain ⟨its, r1, p1, _⟩ := I.tuple ha
    obtain ⟨its2, r2, p2, _⟩ := I.tuple hb
    cases r1
    exact cat_tup0 p1 p2 ⟨.ref b, H, I, rfl, q0 rfl⟩
  · cases rx
    cases ry
    obtain ⟨its, r1, p1, _⟩ := I.tuple ha
    obtain ⟨its2, r2, p2, _⟩ := I.tuple hb
    refine HT.cat_tup p1 p2 (fun z => hx (r1.nil_iff.mp z)) (fun z => ⟨.ref a, H, I, rfl, q1 hx (r2.nil_iff.mp z)⟩) (fun z => ?_) (by rw [← r1.length, ← r2.length]; exact hz)
    exact laidT I (r1.append r2) (by rw [List.length_append]; exact hz) (q2 hx fun w => z (r2.nil_iff.mpr w))
def rSlF (K : PySem.W.Frag) : V → Option Int → Option Int → Hp → VK → Prop := fun x lo hi H Q => ∃ a xs, x = .ref a ∧ SqT K H a xs ∧
  (HT.sIx xs.length 0 lo = 0 ∧ HT.sIx xs.length xs.length hi = xs.length → Q (.ref a) H) ∧ (¬ (HT.sIx xs.length 0 lo = 0 ∧ HT.sIx xs.length xs.length hi = xs.length) → NewT H (cutV xs lo hi) Q)
theorem sl_tupF : SlR X (rSlF X.K) := by
  intro pins s σ H x v vl vu lo hi sl Q I rx hs pl pu h
  obtain ⟨a, xs, rfl, hx, q1, q2⟩ := h
  cases rx
  obtain ⟨its, r, ht, hz⟩ := I.tuple hx
  have hlen : its.toArray.size = xs.length := by rw [List.size_toArray]; exact r.length.symm
  refine ⟨"tuple", _, PyProof.Rows.slot_tuple_getitem.lookup, ht.typeIs, ?_⟩
  by_cases hw : HT.sIx xs.length 0 lo = 0 ∧ HT.sIx xs.length xs.length hi = xs.length
  · exact getItem_tuple_whole ht hs pl pu (by rw [hlen]; exact hw) ⟨.ref a, H, I, rfl, q1 hw⟩
  · refine HT.getItem_tuple_cut ht hs pl pu (by rw [hlen]; exact hw) ?_ (by rw [hlen]; exact hz)
    rw [hlen]
    exact laidT I ((r.drop (HT.sIx xs.length 0 lo)).take (HT.sIx xs.length xs.length hi - HT.sIx xs.length 0 lo)) (Nat.le_trans (cutV_length xs lo hi) hz) (q2 hw)
end
/-! a tuple's method -/
section
variable {X : Cx} {o : Expr} {to : TE} {t : TA} {name : Str} {apos cpos : Pos} {id : String} {r : V → List V → Hp → VK → Prop} {e : Expr} {es : List Expr}
def tTM (r : V → List V → Hp → VK → Prop) (to : TE) (t : TA) : TE := fun σ H Q => to σ H fun x H1 => (∃ a xs, x = .ref a ∧ TupAt H1 a xs) ∧ t σ H1 fun xs H2 => r x xs H2 Q
theorem tup_ty {pins : List (Addr × Obj)} {σ : L2.St} {H : Hp} {s : Shared} {y : V} {v : Value} (I : Inv X pins σ H s) (r : RelV y v) (ty : ∃ a xs, y = .ref a ∧ TupAt H a xs) :
    s.TypeIs v "tuple" ∧ ∀ a, v = .ref a → ∃ ob, s.heap.get? a = some ob ∧ ob.dict = none := by
  obtain ⟨a, xs, rfl, ob, e, hc, hd⟩ := ty
  cases r
  have h : s.heap.get? a = some ob := (I.hok a _ e).1
  refine ⟨⟨_, h, hc⟩, fun b hb => ?_⟩
  cases hb
  exact ⟨_, h, hd⟩
theorem pe_tm (pa : PlainAttrs "tuple") (slot : Slot "tuple" name id) (hty : typeOf (.builtin id) = pure (.type "method_descriptor")) (hm : MtR X id r) (ho : PE X o to) (ha : PA X (e :: es) t)
    (hbase : attributeBase o name X.env (eval o X.env) = eval o X.env := by rfl)
    (hfew : ((backTo cpos (starEach (e :: es) X.env)).all (fun x => !x.1) && (backToKw cpos (keywordEach [] X.env)).all (fun x => x.1.isSome)
      && decide ((e :: es).length + ([] : List Keyword).length + (if ([] : List Keyword).isEmpty then 0 else 1) < 30)) = true := by rfl)
    (hline : (apos.endLine == cpos.line) = true := by rfl) (hs : starEach (e :: es) X.env = (false, eval e X.env) :: starEach es X.env := by rfl) (hplain : (backTo cpos (starEach es X.env)).any (·.1) = false := by rfl) :
    PE X (.Call (.Attribute o name apos) (e :: es) [] cpos) (tTM r to t) := by
  refine ⟨fun pins s σ H Q I h => ?_⟩
  refine wpAny_Call_method_late hbase hfew hline rfl (thn (ho.run pins s σ H _ I h) fun v s1 ⟨x, H1, I1, r1, ty, q1⟩ => ?_)
  obtain ⟨h1, h2⟩ := tup_ty I1 r1 ty
  refine ⟨"tuple", id, pa, slot, hty, h1, h2, ?_⟩
  have hA := ha.run cpos pins s1 σ H1 _ I1 q1
  rw [hs] at hA ⊢
  refine Calls.callWith_builtin (by show (false || (backTo cpos (starEach es X.env)).any (·.1)) = false; rw [hplain] <;> rfl) (Calls.evalArgs_plain ?_)
  exact thn hA fun us s2 ⟨vs, H2, I2, r2, q2⟩ => hm pins s2 σ H2 x vs v us Q I2 r1 r2 q2
end
end Mir
/-! A dict whose keys are known tuples of texts and whole numbers: read, written, made. -/
namespace Mir
open PySem PySem.W PySem.Calls PyProof.Rows PyProof.V PySem.Spec L2
abbrev HS := List Key → Int
def hsP (P : Program) (w : World) : HS := tupleKeyHash (mixKind P w)
/-- key, the address of the key's tuple, value -/
abbrev TLi := List (List Key × Addr × V)
def RelT : List Key × Addr × V → List Key × Addr × Value → Prop := fun p q => p.1 = q.1 ∧ p.2.1 = q.2.1 ∧ RelV p.2.2 q.2.2
def enH (hs : HS) (x : List Key × Addr × Value) : DictEntry := ⟨hs x.1, .ref x.2.1, x.2.2⟩
def dictOk (hs : HS) (a : Addr) (L : TLi) (h : Heap) : Prop := (a == sysModules) = false ∧ ∃ xs, Paired RelT L xs ∧ ∃ o es ep, h.get? a = some o ∧ o.ExactDict ∧ o.data = .dict es ep ∧ es.toList = xs.map (enH hs) ∧ (xs.map (·.1)).Nodup
def dictO (hs : HS) (a : Addr) (L : TLi) : HO := .ext (dictOk hs a L)
def KeysAt (H : Hp) (L : TLi) : Prop := ∀ p ∈ L, TupAt H p.2.1 (p.1.map kV)
def lkL (L : TLi) (k : List Key) : Option V := (L.find? fun p => decide (p.1 = k)).map (·.2.2)
def upL (k : List Key) (v : V) (p : List Key × Addr × V) : List Key × Addr × V := if p.1 = k then (p.1, p.2.1, v) else p
def putL (L : TLi) (k : List Key) (b : Addr) (v : V) : TLi := if (lkL L k).isSome then L.map (upL k v) else L ++ [(k, b, v)]
theorem dictOk.objOk {P : Program} {w : World} {H : Hp} {h : Heap} {hs : HS} {a : Addr} {L : TLi} (x : dictOk hs a L h) : ObjOk P w H h a (dictO hs a L) := by
  refine ⟨x, ?_, fun h1 h2 y k => ?_⟩
  · obtain ⟨_, _, _, o, _, _, ho, _⟩ := x
    exact ⟨o, ho⟩
  · obtain ⟨y0, xs, r, o, es, ep, ho, y1⟩ := y
    exact ⟨y0, xs, r, o, es, ep, k o ho, y1⟩
theorem keyRd {P : Program} {w : World} {H : Hp} {h : Heap} {a : Addr} {ks : List Key} (ok : HOk P w H h) (e : TupAt H a (ks.map kV)) : (tupleKind (mixKind P w)).is h ks a := by
  obtain ⟨o0, e, _⟩ := e
  obtain ⟨_, _, its, r, o, h1, h2, n, h3⟩ := (show ObjOk P w H h a (.frz o0 (.tup (ks.map kV))) from ok a _ e)
  exact ⟨o, its.toArray, n, h1, h2, h3, by simpa using items_are r⟩
theorem relT_mem {L : TLi} {xs : List (List Key × Addr × Value)} (r : Paired RelT L xs) : ∀ x ∈ xs, ∃ p ∈ L, p.1 = x.1 ∧ p.2.1 = x.2.1 := by
  induction r with
  | nil => intro x hx; cases hx
  | @cons p q ps qs h t ih =>
    intro x hx
    rcases List.mem_cons.mp hx with rfl | hx
    · exact ⟨p, by simp, h.1, h.2.1⟩
    · obtain ⟨y, hy, e⟩ := ih x hx
      exact ⟨y, by simp [hy], e⟩
theorem dictOf {P : Program} {w : World} {H : Hp} {h : Heap} {a : Addr} {L : TLi} (ok : HOk P w H h) (e : H a = some (dictO (hsP P w) a L)) (hk : KeysAt H L) : ∃ xs, Paired RelT L xs ∧ (a == sysModules) = false ∧ h.DictOfH (tupleKind (mixKind P w)) a xs := by
  obtain ⟨⟨hd, xs, r, o, es, ep, h1, h2, h3, h4, h5⟩, _⟩ := (show ObjOk P w H h a (dictO (hsP P w) a L) from ok a _ e)
  refine ⟨xs, r, hd, o, es, ep, h1, h2, h3, h4, fun x hx => ?_, h5⟩
  obtain ⟨p, hp, e1, e2⟩ := relT_mem r x hx
  have := keyRd ok (hk p hp)
  rw [e1, e2] at this
  exact this
theorem relT_val {L : TLi} {xs : List (List Key × Addr × Value)} (r : Paired RelT L xs) (k : List Key) : RelO (lkL L k) ((atKey xs k).map (·.2)) := by
  induction r with
  | nil => exact True.intro
  | @cons p q ps qs h t ih =>
    obtain ⟨h1, h2, h3⟩ := h
    by_cases e : p.1 = k
    · have e' : q.1 = k := h1.symm.trans e
      have a : lkL (p :: ps) k = some p.2.2 := by simp [lkL, e]
      have b : atKey (q :: qs) k = some q.2 := by simp [atKey, List.find?_cons, e']
      rw [a, b]; exact h3
    · have e' : ¬ q.1 = k := fun z => e (h1.trans z)
      have a : lkL (p :: ps) k = lkL ps k := by simp [lkL, e]
      have b : atKey (q :: qs) k = atKey qs k := by simp [atKey, List.find?_cons, e']
      rw [a, b]; exact ih
theorem relT_put {L : TLi} {xs : List (List Key × Addr × Value)} (r : Paired RelT L xs) (k : List Key) {b : Addr} {v : V} {u : Value} (rv : RelV v u) : Paired RelT (putL L k b v) (storedH xs k b u) := by
  have e : (lkL L k).isSome = (atKey xs k).isSome := by rw [(relT_val r k).isSome_eq, Option.isSome_map]
  unfold putL storedH
  rw [e]
  by_cases q : (atKey xs k).isSome = true
  · rw [if_pos q, if_pos q]
    clear e q
    induction r with
    | nil => exact .nil
    | @cons p q ps qs h t ih =>
      obtain ⟨h1, h2, h3⟩ := h
      rw [List.map_cons, List.map_cons]
      refine .cons ?_ ih
      unfold upL putAt
      by_cases e : p.1 = k
      · rw [if_pos e, if_pos (h1.symm.trans e)]; exact ⟨h1, h2, rv⟩
      · rw [if_neg e, if_neg (fun z => e (h1.trans z))]; exact ⟨h1, h2, h3⟩
  · rw [if_neg q, if_neg q]
    exact r.snoc ⟨rfl, rfl, rv⟩
theorem putL_len {L : TLi} {k : List Key} {b : Addr} {v : V} : (putL L k b v).length ≤ L.length + 1 := by
  unfold putL
  split <;> simp
section
variable {X : Cx} {pins : List (Addr × Obj)} {σ : L2.St} {H : Hp} {s : Shared} {a b : Addr} {k : List Key} {v : V} {L : TLi} {A : Around} {E : Value → Shared → Prop}
theorem x_typeIs (I : Inv X pins σ H s) (e : H a = some (dictO (hsP X.prog X.w) a L)) : s.TypeIs (.ref a) "dict" := by
  obtain ⟨⟨_, xs, _, o, es, ep, h1, h2, _⟩, _⟩ := (show ObjOk X.prog X.w H s.heap a (dictO (hsP X.prog X.w) a L) from I.hok a _ e)
  exact ⟨o, h1, h2.1⟩
theorem x_getItem {Q : Value → Shared → Prop} (hu : A.units + 1 < cLine) (I : Inv X pins σ H s) (e : H a = some (dictO (hsP X.prog X.w) a L)) (hk : KeysAt H L) (hb : TupAt H b (k.map kV)) (hv : lkL L k = some v) (h : ∀ u s', Inv X pins σ H s' → RelV v u → Q u s') :
    wpAny (model X.prog X.w) A (getItem (.ref a) (.ref b)) Q E s := by
  obtain ⟨xs, r, _, dd⟩ := dictOf I.hok e hk
  have rr := relT_val r k
  rw [hv] at rr
  obtain ⟨u, hu1, ru⟩ := rr.some_of
  obtain ⟨p, hp, hp2⟩ := Option.map_eq_some_iff.mp hu1
  refine wpAny_getItem_heap (tupleKind_room_in1 hu) (keyRd I.hok hb) dd hp ?_
  rw [hp2]
  exact h u _ (I.tok _) ru
theorem dictOk_of {P : Program} {w : World} {h : Heap} {xs : List (List Key × Addr × Value)} (hd : (a == sysModules) = false) (r : Paired RelT L xs) (dd : h.DictOfH (tupleKind (mixKind P w)) a xs) : dictOk (hsP P w) a L h := by
  obtain ⟨o, es, ep, h1, h2, h3, h4, _, h5⟩ := dd
  exact ⟨hd, xs, r, o, es, ep, h1, h2, h3, h4, h5⟩
theorem x_write {h' : Heap} {t' : Nat} {L' : TLi} (I : Inv X pins σ H s) (e : H a = some (dictO (hsP X.prog X.w) a L)) (hd : (a == sysModules) = false) {xs : List (List Key × Addr × Value)} (r : Paired RelT L' xs) (dd : h'.DictOfH (tupleKind (mixKind X.prog X.w)) a xs) (hs : Heap.SameBut a s.heap h') :
    Inv X pins σ (upd H a (dictO (hsP X.prog X.w) a L')) { s with heap := h', toks := t' } := by
  have ok := dictOk_of hd r dd
  obtain ⟨q, _, _, hq, _⟩ := dd
  exact d_write I (by rw [e]; exact True.intro) hs ⟨q, hq⟩ ok.objOk
theorem x_setItem {u : Value} {Q : Unit → Shared → Prop} (hu : A.units + 1 < cLine) (I : Inv X pins σ H s) (e : H a = some (dictO (hsP X.prog X.w) a L)) (hk : KeysAt H L) (hl : L.length < sizeLine) (hb : TupAt H b (k.map kV)) (rv : RelV v u) (h : ∀ s', Inv X pins σ (upd H a (dictO (hsP X.prog X.w) a (putL L k b v))) s' → Q () s') :
    wpAny (model X.prog X.w) A (setItem (.ref a) (.ref b) u) Q E s := by
  obtain ⟨xs, r, hd, dd⟩ := dictOf I.hok e hk
  have hz : xs.length ≤ sizeLine := by rw [← Paired.length r]; omega
  exact wpAny_setItem_heap (hsz := hz) (tupleKind_room_in1 hu) (keyRd I.hok hb) dd fun h' dd' hs => h _ (x_write I e hd (relT_put r k rv) dd' hs)
theorem x_dictSet {u : Value} {Q : Unit → Shared → Prop} (hu : X.A.units < cLine) (I : Inv X pins σ H s) (e : H a = some (dictO (hsP X.prog X.w) a L)) (hk : KeysAt H L) (hl : L.length < sizeLine) (hb : TupAt H b (k.map kV)) (rv : RelV v u) (h : ∀ s', Inv X pins σ (upd H a (dictO (hsP X.prog X.w) a (putL L k b v))) s' → Q () s') :
    wpAny (model X.prog X.w) X.A (dictSet a (.ref b) u) Q E s := by
  obtain ⟨xs, r, hd, dd⟩ := dictOf I.hok e hk
  have hz : xs.length ≤ sizeLine := by rw [← Paired.length r]; omega
  exact wpAny_dictSet_heap (hsz := hz) hu (keyRd I.hok hb) dd fun h' dd' hs => h _ (x_write I e hd (relT_put r k rv) dd' hs)
theorem x_empty {P : Program} {w : World} {H : Hp} {hs : HS} (h : Heap) (hb : sysModules < h.objs.size) : ObjOk P w H (h.push { cls := .type "dict", data := .dict #[] }) h.objs.size (dictO hs h.objs.size []) :=
  dictOk.objOk ⟨beq_eq_false_iff_ne.mpr (Ne.symm (Nat.ne_of_lt hb)), [], .nil, _, #[], 0, Heap.get?_push_size _ rfl, ⟨rfl, rfl, rfl⟩, rfl, rfl, List.nodup_nil⟩
end
/-! ### subscripts, assignments -/
/-- d[k]: d a dict of this kind -/
def rIxT (hs : HS) : R2 := fun x y H Q => ∃ (a b : Addr) (L : TLi) (k : List Key) (v : V), x = .ref a ∧ y = .ref b ∧ H a = some (dictO hs a L) ∧ KeysAt H L ∧ TupAt H b (k.map kV) ∧ lkL L k = some v ∧ Q v H
theorem ix_tdict {X : Cx} (hu : X.A.units + 1 < cLine) : IxR X (rIxT (hsP X.prog X.w)) := by
  intro value slice pins s σ H x y v u Q I rx ry h hs
  obtain ⟨a, b, L, k, w, rfl, rfl, e, hk, hb, hv, q⟩ := h
  cases rx
  cases ry
  have hT := x_typeIs I e
  have h2 : wpAny (model X.prog X.w) X.A (getItem (.ref a) (.ref b)) (EP X pins σ Q) X.xe s := x_getItem hu I e hk hb hv fun w' s3 I3 rw' => ⟨w, H, I3, rw', q⟩
  unfold subscriptTail
  refine wpAny_bind ?_
  rw [getitemInPython_of_ne hT.not_modules]
  refine wpAny_bind (wpAny_specialOf hT PySem.F.slot_dict_getitem.lookup ?_)
  have fin : wpAny (model X.prog X.w) X.A (subscripted slice false (.ref a) (.ref b)) (fun r s₃ => wpAny (model X.prog X.w) X.A (letTemporaryGo value (.ref a) r >>= fun _ => pure r) (EP X pins σ Q) X.xe s₃) X.xe s := by
    rw [hs]
    exact wpAny_operating (wpAny_mono h2 (fun r s₃ h₃ => wpAny_bind (wpAny_letTemporaryGo (wpAny_pure h₃))) fun _ _ x => x)
  first
    | exact wpAny_pure (wpAny_bind fin)
    | exact wpAny_bind fin
    | exact wpAny_bind (wpAny_pure (wpAny_bind fin))
def rSetT (hs : HS) : V → V → V → Hp → (Hp → Prop) → Prop := fun o i v H Q => ∃ (a b : Addr) (L : TLi) (k : List Key), o = .ref a ∧ i = .ref b ∧ H a = some (dictO hs a L) ∧ KeysAt H L ∧ L.length < sizeLine ∧ TupAt H b (k.map kV) ∧ Q (upd H a (dictO hs a (putL L k b v)))
theorem set_tdict {X : Cx} (hu : X.A.units + 1 < cLine) : PSet X (rSetT (hsP X.prog X.w)) := by
  intro pins s σ H o i v ov iv u Q I ro ri rv h
  obtain ⟨a, b, L, k, rfl, rfl, e, hk, hl, hb, q⟩ := h
  cases ro
  cases ri
  exact x_setItem hu I e hk hl hb rv fun s' I' => ⟨_, I', q⟩
/-! ### {k: v for x in xs}: the keys known tuples -/
/-- what a turn of the comprehension wants -/
def DcTurns (hs : HS) (dA : Addr) (vs : List Nat) (σw : L2.St) (g : TG) (tt : TT) (tk tv : TE) (J : It) (Wv : Nat → Nat → Hp → Prop) (Qd : Hp → Prop) : Prop :=
  ∀ i m H, Wv i m H → (J.stop i H ∧ Qd H) ∨ (J.go i H ∧ ∃ Nx : Hp → Prop, (∀ H', Nx H' → ∃ m', m' < m ∧ Wv (i + 1) m' H') ∧ ∀ x H', J.yld i H x H' → g x σw H' fun σ2 H2 => wipe σ2 vs = σw ∧ tt σ2 H2 fun on H3 =>
    if on = true then tk σ2 H3 fun y H4 => tv σ2 H4 fun z H5 => ∃ (b : Addr) (k : List Key) (L : TLi), y = .ref b ∧ H5 dA = some (dictO hs dA L) ∧ KeysAt H5 L ∧ L.length < sizeLine ∧ TupAt H5 b (k.map kV) ∧ Nx (upd H5 dA (dictO hs dA (putL L k b z))) else Nx H3)
def tDcT (hs : HS) (wi : TI) (g : TG) (tt : TT) (tk tv : TE) (vs : List Nat) : TE := fun σ H Q => wi σ H fun J H1 => ∀ dA, H1 dA = none → ∃ Wv : Nat → Nat → Hp → Prop, (∃ m, Wv 0 m (upd H1 dA (dictO hs dA []))) ∧ DcTurns hs dA vs (wipe σ vs) g tt tk tv J Wv (Q (.ref dA))
theorem thnX {α : Type} {t : Sem α} {Q Q' : α → Shared → Prop} {M : Model} {A : Around} {E E' : Value → Shared → Prop} {s : Shared} (hE : E = fun _ _ => False) (h : wpAny M A t Q E s) (hQ : ∀ a s, Q a s → Q' a s) : wpAny M A t Q' E' s := by
  subst hE
  exact thnF h hQ
/-- the loop, in the block's own context -/
theorem dcT_loop {B : Cx} {kx vx tg itx : Expr} {cs : List Expr} {scp : Scope} {po : Pos} {dA it : Addr} {fpl : List Addr} {tst : Nat → Heap → Prop} {J : It} {σw : L2.St} {g : TG} {tt : TT} {tk tv : TE} {vs : List Nat} {Wv : Nat → Nat → Hp → Prop} {Qd : Hp → Prop} {R : Result → Shared → Prop}
    (calm : B.calm = true) (hxe : B.xe = fun _ _ => False) (hu : B.A.units < cLine) (T : Turn B.prog B.w B.K tg J fpl it tst)
    (stay : ∀ (σ' : L2.St) (H' : Hp) (s' : Shared), Inv B [] σ' H' s' → (∀ b ∈ fpl, H' b = none) → ∀ b ∈ fpl, FpOk B [] H' b)
    (pg : PG B tg g) (pt : PTs B cs tt) (pk : PE B kx tk) (pv : PE B vx tv) (trn : DcTurns (hsP B.prog B.w) dA vs σw g tt tk tv J Wv Qd)
    (fin : ∀ (H' : Hp) (s' : Shared), Inv B [] σw H' s' → Qd H' → R (.ok .next) s') {n i : Nat} {H0 : Hp} {s0 : Shared} (I0 : Inv B [] σw H0 s0) (st0 : tst i s0.heap) (f0 : ∀ b ∈ fpl, H0 b = none) (w0 : Wv i n H0) :
    codeAny (model B.prog B.w) B.A (.compLoop (.DictComp kx vx [⟨tg, itx, cs, 0⟩] scp po) 0 (.ref it) (.ref dA) B.env) R s0 := by
  refine compLoop_anyD (fun n s' => ∃ i H', (Inv B [] σw H' s' ∧ tst i s'.heap) ∧ (∀ b ∈ fpl, H' b = none) ∧ Wv i n H') (fun n s1 hI => ?_) n ⟨i, H0, ⟨I0, st0⟩, f0, w0⟩
  obtain ⟨i, H1, ⟨I1, st1⟩, f1, w1⟩ := hI
  have ok1 := stay _ _ _ I1 f1
  rcases trn i n H1 w1 with ⟨stop, qd⟩ | ⟨go, Nx, less, step⟩
  · refine thnF (T.done B rfl rfl rfl calm i [] s1 σw H1 (fun _ _ => False) I1 ok1 st1 stop) fun r s2 hr => ?_
    obtain ⟨rfl, I2⟩ := hr
    exact fin H1 s2 I2 qd
  · refine thnF (T.item B rfl rfl rfl calm i [] s1 σw H1 (fun _ _ => False) I1 ok1 st1 go) fun r s2 hr => ?_
    obtain ⟨u, rfl, h2⟩ := hr
    refine thnF h2 fun _ s3 h3 => ?_
    obtain ⟨x, H3, I3, rx, yx, st3, f3⟩ := h3
    have Ip := I3.pinned (stay _ _ _ I3 f3) (T.obj _ _ st3)
    -- the turn is over: the iterator's objects are as they were
    have over : ∀ (σ2 : L2.St) (H' : Hp) (s' : Shared), wipe σ2 vs = σw → Inv B ([] ++ pinsAt fpl s3.heap) σ2 H' s' → Nx H' → ∃ m, m < n ∧ ∃ i H', (Inv B [] σw H' s' ∧ tst i s'.heap) ∧ (∀ b ∈ fpl, H' b = none) ∧ Wv i m H' := fun σ2 H' s' ew I' nx => by
      obtain ⟨m', lt, w'⟩ := less H' nx
      have held : ∀ b ∈ fpl, ∀ o, s3.heap.get? b = some o → s'.heap.get? b = some o ∧ H' b = none := fun b hb o e => by
        have := I'.pin (b, o) (List.mem_append_right _ (List.mem_append_right _ (mem_pinsAt hb e)))
        exact ⟨this.1, this.2.1⟩
      have len : σw.length = σ2.length := by rw [← ew, wipe_length]
      have Iw : Inv B [] σw H' s' := (I'.unpinned (pins := [])).weak len fun j v e => by
        rw [← ew] at e
        exact (wipe_some e).1
      refine ⟨m', lt, i + 1, H', ⟨Iw, T.keep _ _ _ st3 fun b hb o e => (held b hb o e).1⟩, fun b hb => ?_, w'⟩
      obtain ⟨o, e, _⟩ := T.obj _ _ st3 b hb
      exact (held b hb o e).2
    refine thnX hxe (pg.run _ s3 _ H3 x u _ Ip rx (step x H3 yx)) fun _ s4 h4 => ?_
    obtain ⟨σ4, H4, I4, ew, q4⟩ := h4
    refine thnX hxe (pt.run _ s4 σ4 H4 _ I4 q4) fun on s5 h5 => ?_
    obtain ⟨H5, I5, q5⟩ := h5
    cases on with
    | false => exact over σ4 H5 s5 ew I5 q5
    | true =>
      refine thnX hxe (pk.run _ s5 σ4 H5 _ I5 q5) fun kv s6 h6 => ?_
      obtain ⟨y, H6, I6, ry, q6⟩ := h6
      refine thnX hxe (pv.run _ s6 σ4 H6 _ I6 q6) fun vv s7 h7 => ?_
      obtain ⟨z, H7, I7, rz, b, k, L, rfl, hD, hK, hl, hb, nx⟩ := h7
      cases ry
      exact x_dictSet hu I7 hD hK hl hb rz fun s8 I8 => over σ4 _ s8 ew I8 nx
section
variable {X : Cx} {kx vx tg itx : Expr} {cs : List Expr} {scp : Scope} {po : Pos} {own : List (Str × Nat)} {wi : TI} {g : TG} {tt : TT} {tk tv : TE}
/-- a block's parts, whatever the block's address and cells -/
def InBlk (X : Cx) (scp : Scope) (R : Cx → Prop) : Prop := ∀ (s : Shared) (H : Hp) (C : Addr) (cl : List (Str × Addr)) (fp : List Addr), R (X.blk s H scp (compEnvC scp cl C X.env) fp)
theorem pe_dcT (calm : X.calm = true) (hu : X.A.units < cLine) (nd : X.N.Nodup) (pi : PI X tg itx wi) (bok : BlkOk X.N X.env.scope scp own) (pg : InBlk X scp fun B => PG B tg g) (pt : InBlk X scp fun B => PTs B cs tt) (pk : InBlk X scp fun B => PE B kx tk) (pv : InBlk X scp fun B => PE B vx tv)
    (hfold : ∀ x, foldedSetIterable itx X.env x = pure x := by intro _; rfl) : PE X (.DictComp kx vx [⟨tg, itx, cs, 0⟩] scp po) (tDcT (hsP X.prog X.w) wi g tt tk tv (own.map (·.2))) := by
  refine ⟨fun pins s σ H Q I h => ?_⟩
  rw [arm_eval_DictComp]
  have frees : ∀ y ∈ scp.names, y.2 = .free → ∃ c, X.env.cells.lookup y.1 = some c := fun y hy e => I.ok.has _ (bok.free y hy e)
  refine wpAny_comprehension_free rfl hfold (closure_ok frees) bok.kind (fun y hy e => (bok.uniq y hy).trans (congrArg some e)) (thn (pi.run pins s σ H _ I h) fun xv sa hx => thn hx fun itv sb hb => ?_)
  obtain ⟨it, fpl, tst, J, Hb, rfl, Ib, T, stb, fb, main⟩ := hb
  refine wpAny_newObj_type (newEnv_comp ?_)
  obtain ⟨dA, hdA⟩ : ∃ dA, dA = sb.heap.objs.size := ⟨_, rfl⟩
  have hfresh : Hb dA = none := Ib.hok.fresh (Nat.le_of_eq hdA.symm)
  obtain ⟨Wv, ⟨m0, w0⟩, turns⟩ := main dA hfresh
  obtain ⟨sc, hsc⟩ : ∃ sc : Shared, sc = { sb with heap := sb.heap.push { cls := .type "dict", data := .dict #[] } } := ⟨_, rfl⟩
  obtain ⟨Hc, hHc⟩ : ∃ Hc, Hc = upd Hb dA (dictO (hsP X.prog X.w) dA []) := ⟨_, rfl⟩
  have hph : sc.heap = sb.heap.push { cls := .type "dict", data := .dict #[] } := by rw [hsc]
  have Ic : Inv X pins σ Hc sc := by
    rw [hsc, hHc]
    refine Ib.laid (t' := sb.toks) (fun b o e => Heap.get?_push_of_some _ e) (Nat.le_of_eq hdA.symm) ?_
    subst hdA
    exact x_empty sb.heap Ib.big
  have old : ∀ b ∈ fpl, b < sb.heap.objs.size := fun b hb => let ⟨_, e, _⟩ := T.obj _ _ stb b hb; Heap.lt_size e
  have fc : ∀ b ∈ fpl, FpOk X pins Hc b ∧ b < sc.heap.objs.size := fun b hb => by
    have lt := old b hb
    refine ⟨⟨?_, (fb b hb).2⟩, by rw [hph, Heap.size_push]; exact Nat.lt_succ_of_lt lt⟩
    rw [hHc, upd_ne (fun z => by rw [z, hdA] at lt; exact Nat.lt_irrefl _ lt)]
    exact (fb b hb).1
  have stc : tst 0 sc.heap := T.keep _ _ _ stb fun b _ o e => by rw [hph]; exact Heap.get?_push_of_some _ e
  have Id := block_start Ic bok nd fc
  obtain ⟨cl, hcl⟩ : ∃ cl, cl = cellsFrom (sc.heap.objs.size + 1) scp.names (cloFrom X.env.cells scp.names []) := ⟨_, rfl⟩
  obtain ⟨sd, hsd⟩ : ∃ sd : Shared, sd = { sc with heap := pushCells (sc.heap.push { cls := .type "dict", data := .dict #[] }) scp.names } := ⟨_, rfl⟩
  rw [← hcl, ← hsd] at Id
  obtain ⟨B, hB⟩ : ∃ B, B = X.blk sc Hc scp (compEnvC scp cl sc.heap.objs.size X.env) fpl := ⟨_, rfl⟩
  have pgB := pg sc Hc sc.heap.objs.size cl fpl
  have ptB := pt sc Hc sc.heap.objs.size cl fpl
  have pkB := pk sc Hc sc.heap.objs.size cl fpl
  have pvB := pv sc Hc sc.heap.objs.size cl fpl
  have std : tst 0 sd.heap := T.keep _ _ _ stc fun b _ o e => by rw [hsd]; exact pushCells_keeps _ _ _ _ (Heap.get?_push_of_some _ e)
  have fd : ∀ b ∈ fpl, Hc b = none := fun b hb => (fc b hb).1.1
  have stay : ∀ (σ' : L2.St) (H' : Hp) (s' : Shared), Inv (X.blk sc Hc scp (compEnvC scp cl sc.heap.objs.size X.env) fpl) [] σ' H' s' → (∀ b ∈ fpl, H' b = none) → ∀ b ∈ fpl, FpOk (X.blk sc Hc scp (compEnvC scp cl sc.heap.objs.size X.env) fpl) [] H' b := fun σ' H' s' I' hn b hb =>
    ⟨hn b hb, (I'.ok.exf b hb).1, I'.ok.exfs b hb, .inl hb, fun x c e => (I'.ok.exf b hb).2 x c e, fun p hp => absurd (show p ∈ ([] : List (Addr × Obj)) ++ [] from hp) (by simp)⟩
  obtain ⟨use, huse⟩ : ∃ use : Option (Value → Sem Unit), use = none := ⟨_, rfl⟩
  have ends : ∀ (H' : Hp) (s' : Shared), Inv (X.blk sc Hc scp (compEnvC scp cl sc.heap.objs.size X.env) fpl) [] (wipe σ (own.map (·.2))) H' s' → Q (.ref dA) H' → compPost (model X.prog X.w) X.A X.xe none (EP X pins σ Q) (.ref dA) sc.heap.objs.size (.ok .next) s' := fun H' s' I' q => by
    have Iq : Inv X pins σ H' s' := Ic.call' (ch := fpl) I'.os I'.base I'.hok I'.bare fun b hb => ⟨(fc b hb).1.2.2.2.1, (fc b hb).1.2.1, (fc b hb).1.2.2.2.2.1, (fc b hb).1.2.2.2.2.2⟩
    have free : H' sc.heap.objs.size = none := I'.free
    obtain ⟨m, hn, _⟩ := I'.loc
    refine ⟨m, hn, fun h'' sb => ?_⟩
    obtain ⟨f0, f1, f2, f3, f4, f5⟩ := Ic.fpOk (Nat.le_refl _) free
    exact ⟨.ref dA, H', Iq.turned (t' := s'.toks) (fun b o hb e => (sb.2 b hb).trans e) f0 f1 f3 f4 f5, rfl, q⟩
  have loop : codeAny (model X.prog X.w) X.A (.compLoop (.DictComp kx vx [⟨tg, itx, cs, 0⟩] scp po) 0 (.ref it) (.ref dA) (compEnvC scp cl sc.heap.objs.size X.env)) (compPost (model X.prog X.w) X.A X.xe none (EP X pins σ Q) (.ref dA) sc.heap.objs.size) sd :=
    dcT_loop (B := X.blk sc Hc scp (compEnvC scp cl sc.heap.objs.size X.env) fpl) calm rfl hu T stay pgB ptB pkB pvB turns ends Id std fd (by rw [hHc]; exact w0)
  have start := codeAny_compStart_dict loop (T.self X.A 0 _ _ _ std loop)
  subst hsc hcl hsd hdA
  exact start
end
end Mir
/-! Data without heap, what represents them, the state of a def's slots. -/
namespace Mir
open PySem L2

inductive D where
  | non | bl (b : Bool) | int (i : Int) | str (x : Str)
  | tup (xs : List D) | lst (xs : List D) | scr (ns : List Int)
  | dk (ks : List Key) (vs : List D) | dt (hs : HS) (ks : List (List Key)) (vs : List D) | ty (n : String)
instance : Inhabited D := ⟨.non⟩

abbrev Fg := PySem.W.Frag
/-! ### heaps -/
def Ex (H H' : Hp) : Prop := ∀ a o, H a = some o → H' a = some o
theorem Ex.refl (H : Hp) : Ex H H := fun _ _ h => h
theorem Ex.trans {H H1 H2 : Hp} (a : Ex H H1) (b : Ex H1 H2) : Ex H H2 := fun x o h => b x o (a x o h)
theorem Ex.new {H : Hp} {p : Addr} {o : HO} (h : H p = none) : Ex H (upd H p o) := fun a u e => by
  rw [upd_ne (ne_of_none e h)]; exact e
/-- the heap but for the addresses of F -/
def off (F : List Addr) (H : Hp) : Hp := fun a => if a ∈ F then none else H a
theorem off_in {F : List Addr} {H : Hp} {a : Addr} (h : a ∈ F) : off F H a = none := if_pos h
theorem off_out {F : List Addr} {H : Hp} {a : Addr} (h : a ∉ F) : off F H a = H a := if_neg h
theorem off_some {F : List Addr} {H : Hp} {a : Addr} {o : HO} : off F H a = some o ↔ a ∉ F ∧ H a = some o := by
  by_cases h : a ∈ F
  · rw [off_in h]; exact ⟨fun e => (by cases e), fun e => absurd h e.1⟩
  · rw [off_out h]; exact ⟨fun e => ⟨h, e⟩, fun e => e.2⟩
theorem off_mono {F : List Addr} {H H' : Hp} (e : Ex H H') : Ex (off F H) (off F H') := fun a o h => by
  rw [off_some] at h ⊢; exact ⟨h.1, e a o h.2⟩
theorem off_ex {F : List Addr} {H : Hp} : Ex (off F H) H := fun a o h => (off_some.mp h).2
theorem off_sub {F F' : List Addr} {H : Hp} (s : ∀ p ∈ F, p ∈ F') : Ex (off F' H) (off F H) := fun a o h => by
  rw [off_some] at h ⊢; exact ⟨fun q => h.1 (s a q), h.2⟩
theorem off_upd {F : List Addr} {H : Hp} {p : Addr} {o : HO} (h : p ∈ F) : off F (upd H p o) = off F H := by
  funext a
  by_cases q : a ∈ F
  · rw [off_in q, off_in q]
  · rw [off_out q, off_out q, upd_ne (fun e => q (by rw [e]; exact h))]
/-- a fresh object made one's own leaves the rest -/
theorem off_cons {F : List Addr} {H : Hp} {p : Addr} {o : HO} (h : H p = none) : Ex (off F H) (off (p :: F) (upd H p o)) := fun a u e => by
  rw [off_some] at e ⊢
  have ne : a ≠ p := ne_of_none e.2 h
  exact ⟨fun q => by rcases List.mem_cons.mp q with q | q; exact ne q; exact e.1 q, by rw [upd_ne ne]; exact e.2⟩
theorem off_live {F : List Addr} {H H' : Hp} {p : Addr} (h : H p = none) (e : Ex (off F H) (off F H')) : True := trivial

/-! ### what represents a datum -/
mutual
inductive Rep (K : Fg) (H : Hp) : V → D → Prop
  | non : Rep K H .non .non
  | bl (b : Bool) : Rep K H (.bl b) (.bl b)
  | int (i : Int) : Rep K H (.int i) (.int i)
  | str (x : Str) : Rep K H (.str x) (.str x)
  | ty (n : String) : Rep K H (.ty n) (.ty n)
  | tup {a : Addr} {xs : List V} {ds : List D} : TupAt H a xs → Reps K H xs ds → Rep K H (.ref a) (.tup ds)
  | lst {a : Addr} {xs : List V} {ds : List D} : H a = some (.lst xs) → Reps K H xs ds → Rep K H (.ref a) (.lst ds)
  | scr {a : Addr} {ns : List Int} : SqL K H a (ns.map V.int) → Rep K H (.ref a) (.scr ns)
  | dk {a : Addr} {xs : List V} {ks : List Key} {ds : List D} : xs.length = ks.length → H a = some (.dK (ks.zip xs)) → Reps K H xs ds → Rep K H (.ref a) (.dk ks ds)
  | dt {a : Addr} {L : TLi} {hs : HS} {ks : List (List Key)} {ds : List D} : L.map (·.1) = ks → H a = some (dictO hs a L) → KeysAt H L → Reps K H (L.map (·.2.2)) ds → Rep K H (.ref a) (.dt hs ks ds)
inductive Reps (K : Fg) (H : Hp) : List V → List D → Prop
  | nil : Reps K H [] []
  | cons {v : V} {vs : List V} {d : D} {ds : List D} : Rep K H v d → Reps K H vs ds → Reps K H (v :: vs) (d :: ds)
end
theorem ex_rd {H H' : Hp} {a : Addr} {u : HO} (e : Ex H H') (h : Rd H a u) : Rd H' a u := by
  rcases h with h | ⟨o, h⟩
  · exact Or.inl (e a _ h)
  · exact Or.inr ⟨o, e a _ h⟩
theorem ex_l {K : Fg} {H H' : Hp} {a : Addr} {xs : List V} (e : Ex H H') (h : SqL K H a xs) : SqL K H' a xs := by
  rcases h with h | h
  · exact Or.inl (ex_rd e h)
  · exact Or.inr h
theorem ex_t {K : Fg} {H H' : Hp} {a : Addr} {xs : List V} (e : Ex H H') (h : SqT K H a xs) : SqT K H' a xs := by
  rcases h with h | h
  · exact Or.inl (ex_rd e h)
  · exact Or.inr h
theorem TupAt.ex {H H' : Hp} {a : Addr} {xs : List V} (h : TupAt H a xs) (e : Ex H H') : TupAt H' a xs :=
  let ⟨o, q, z⟩ := h; ⟨o, e _ _ q, z⟩
theorem KeysAt.ex {H H' : Hp} {L : TLi} (h : KeysAt H L) (e : Ex H H') : KeysAt H' L := fun p hp => (h p hp).ex e
mutual
theorem Rep.mono {K : Fg} {H H' : Hp} (e : Ex H H') : ∀ {v : V} {d : D}, Rep K H v d → Rep K H' v d
  | _, _, .non => .non
  | _, _, .bl b => .bl b
  | _, _, .int i => .int i
  | _, _, .str x => .str x
  | _, _, .ty n => .ty n
  | _, _, .tup h r => .tup (h.ex e) (Reps.mono e r)
  | _, _, .lst h r => .lst (e _ _ h) (Reps.mono e r)
  | _, _, .scr h => .scr (ex_l e h)
  | _, _, .dk l h r => .dk l (e _ _ h) (Reps.mono e r)
  | _, _, .dt l h k r => .dt l (e _ _ h) (k.ex e) (Reps.mono e r)
theorem Reps.mono {K : Fg} {H H' : Hp} (e : Ex H H') : ∀ {vs : List V} {ds : List D}, Reps K H vs ds → Reps K H' vs ds
  | _, _, .nil => .nil
  | _, _, .cons h r => .cons (Rep.mono e h) (Reps.mono e r)
end
theorem Reps.length {K : Fg} {H : Hp} : ∀ {vs : List V} {ds : List D}, Reps K H vs ds → vs.length = ds.length
  | _, _, .nil => rfl
  | _, _, .cons _ r => congrArg Nat.succ (Reps.length r)
theorem Reps.get {K : Fg} {H : Hp} : ∀ {vs : List V} {ds : List D} {i : Nat} {d : D}, Reps K H vs ds → ds[i]? = some d → ∃ v, vs[i]? = some v ∧ Rep K H v d
  | _, _, _, _, .nil, e => by simp at e
  | _, _, 0, _, .cons h _, e => by simp at e; subst e; exact ⟨_, rfl, h⟩
  | _, _, i + 1, _, .cons _ r, e => by
    obtain ⟨v, h1, h2⟩ := Reps.get (i := i) r (by simpa using e)
    exact ⟨v, by simpa using h1, h2⟩
theorem Reps.append {K : Fg} {H : Hp} : ∀ {vs ws : List V} {ds es : List D}, Reps K H vs ds → Reps K H ws es → Reps K H (vs ++ ws) (ds ++ es)
  | _, _, _, _, .nil, s => s
  | _, _, _, _, .cons h r, s => .cons h (Reps.append r s)
theorem Reps.take {K : Fg} {H : Hp} : ∀ (n : Nat) {vs : List V} {ds : List D}, Reps K H vs ds → Reps K H (vs.take n) (ds.take n)
  | 0, _, _, _ => .nil
  | _ + 1, _, _, .nil => .nil
  | n + 1, _, _, .cons h r => .cons h (Reps.take n r)
theorem Reps.drop {K : Fg} {H : Hp} : ∀ (n : Nat) {vs : List V} {ds : List D}, Reps K H vs ds → Reps K H (vs.drop n) (ds.drop n)
  | 0, _, _, h => h
  | _ + 1, _, _, .nil => .nil
  | n + 1, _, _, .cons _ r => Reps.drop n r
theorem Reps.set {K : Fg} {H : Hp} {v : V} {d : D} (q : Rep K H v d) : ∀ {vs : List V} {ds : List D} (i : Nat), Reps K H vs ds → Reps K H (vs.set i v) (ds.set i d)
  | _, _, _, .nil => .nil
  | _, _, 0, .cons _ r => .cons q r
  | _, _, i + 1, .cons h r => .cons h (Reps.set q i r)
theorem Reps.erase {K : Fg} {H : Hp} : ∀ {vs : List V} {ds : List D} (i : Nat), Reps K H vs ds → Reps K H (vs.eraseIdx i) (ds.eraseIdx i)
  | _, _, _, .nil => .nil
  | _, _, 0, .cons _ r => r
  | _, _, i + 1, .cons h r => .cons h (Reps.erase i r)
theorem Reps.reverse {K : Fg} {H : Hp} : ∀ {vs : List V} {ds : List D}, Reps K H vs ds → Reps K H vs.reverse ds.reverse
  | _, _, .nil => .nil
  | _, _, .cons h r => by
    rw [List.reverse_cons, List.reverse_cons]
    exact Reps.append (Reps.reverse r) (.cons h .nil)
/-- one's own object's content -/
def OwnAt (K : Fg) (F : List Addr) (H : Hp) (p : Addr) : D → Prop
  | .lst ds => ∃ xs, H p = some (.lst xs) ∧ Reps K (off F H) xs ds
  | .dk ks ds => ∃ xs : List V, xs.length = ks.length ∧ H p = some (.dK (ks.zip xs)) ∧ Reps K (off F H) xs ds
  | .dt hs ks ds => ∃ L : TLi, L.map (·.1) = ks ∧ H p = some (dictO hs p L) ∧ KeysAt (off F H) L ∧ Reps K (off F H) (L.map (·.2.2)) ds
  | _ => False
theorem OwnAt.live {K : Fg} {F : List Addr} {H : Hp} {p : Addr} : ∀ {d : D}, OwnAt K F H p d → ∃ o, H p = some o
  | .lst _, ⟨_, h, _⟩ => ⟨_, h⟩
  | .dk _ _, ⟨_, _, h, _⟩ => ⟨_, h⟩
  | .dt _ _ _, ⟨_, _, h, _⟩ => ⟨_, h⟩
theorem OwnAt.to {K : Fg} {F F' : List Addr} {H H' : Hp} {p : Addr} (e : Ex (off F H) (off F' H')) (hp : H' p = H p) : ∀ {d : D}, OwnAt K F H p d → OwnAt K F' H' p d
  | .lst _, ⟨xs, h, r⟩ => ⟨xs, hp.trans h, r.mono e⟩
  | .dk _ _, ⟨xs, l, h, r⟩ => ⟨xs, l, hp.trans h, r.mono e⟩
  | .dt _ _ _, ⟨L, l, h, k, r⟩ => ⟨L, l, hp.trans h, k.ex e, r.mono e⟩
/-- given up: p leaves F -/
theorem OwnAt.rep {K : Fg} {F F' : List Addr} {H : Hp} {p : Addr} (e : ∀ q ∈ F', q ∈ F) (hp : p ∉ F') : ∀ {d : D}, OwnAt K F H p d → Rep K (off F' H) (.ref p) d
  | .lst _, ⟨xs, h, r⟩ => .lst (by rw [off_out hp]; exact h) (r.mono (off_sub e))
  | .dk _ _, ⟨xs, l, h, r⟩ => .dk l (by rw [off_out hp]; exact h) (r.mono (off_sub e))
  | .dt _ _ _, ⟨L, l, h, k, r⟩ => .dt l (by rw [off_out hp]; exact h) (k.ex (off_sub e)) (r.mono (off_sub e))

/-! ### the slots -/
inductive Sl where
  | un | val (d : D) | own (par : Bool) (d : D)
abbrev Env := List Sl
/-- what a run of a def leans on: its parameters by reference, the heap and the forbidden addresses at its start -/
structure Cfg where
  pm : List (Nat × Addr)
  H0 : Hp
  F0 : List Addr
  /-- objects that stand still meanwhile -/
  pin : Hp
structure Rel (K : Fg) (C : Cfg) (F : List Addr) (σ : L2.St) (H : Hp) (env : Env) : Prop where
  len : σ.length = env.length
  vals : ∀ (i : Nat) d, env[i]? = some (.val d) → ∃ v, σ[i]? = some (some v) ∧ Rep K (off F H) v d
  owns : ∀ (i : Nat) b d, env[i]? = some (.own b d) → ∃ p, σ[i]? = some (some (.ref p)) ∧ p ∈ F ∧ OwnAt K F H p d ∧ (b = true → (i, p) ∈ C.pm) ∧ (b = false → C.H0 p = none)
  apart : ∀ (i j : Nat) b c d e p, i ≠ j → env[i]? = some (.own b d) → env[j]? = some (.own c e) → σ[i]? = some (some (.ref p)) → σ[j]? = some (some (.ref p)) → False
  pars : ∀ (i : Nat) p, (i, p) ∈ C.pm → σ[i]? = some (some (.ref p)) ∧ ∃ d, env[i]? = some (.own true d)
  sub : ∀ p ∈ C.F0, p ∈ F
  old : ∀ a o, (∀ i, (i, a) ∉ C.pm) → C.H0 a = some o → H a = some o
  live : ∀ p ∈ F, ∃ o, H p = some o
  base : ∀ p ∈ C.F0, ∃ o, C.H0 p = some o
  pmF : ∀ (i : Nat) p, (i, p) ∈ C.pm → p ∈ C.F0
  pins : ∀ a o, C.pin a = some o → H a = some o ∧ a ∈ F ∧ ∀ (i : Nat) b d, env[i]? = some (.own b d) → σ[i]? ≠ some (some (.ref a))
section
variable {K : Fg} {C : Cfg} {F F' : List Addr} {σ : L2.St} {H H' : Hp} {env : Env}
theorem Rel.grow (r : Rel K C F σ H env) (e : Ex H H') : Rel K C F σ H' env where
  len := r.len
  vals := fun i d h => let ⟨v, a, b⟩ := r.vals i d h; ⟨v, a, b.mono (off_mono e)⟩
  owns := fun i b d h => by
    obtain ⟨p, a, m, o, c⟩ := r.owns i b d h
    obtain ⟨u, hu⟩ := o.live
    exact ⟨p, a, m, o.to (off_mono e) ((e p u hu).trans hu.symm), c⟩
  apart := r.apart
  pars := r.pars
  sub := r.sub
  old := fun a o h q => e a o (r.old a o h q)
  live := fun p h => let ⟨o, q⟩ := r.live p h; ⟨o, e p o q⟩
  base := r.base
  pmF := r.pmF
  pins := fun a o h => let ⟨x, y, z⟩ := r.pins a o h; ⟨e a o x, y, z⟩
/-- a slot forgotten (not one's own by reference) -/
theorem Rel.mut (r : Rel K C F σ H env) {i : Nat} {p : Addr} {b : Bool} {d d' : D} {o : HO} (hi : env[i]? = some (.own b d)) (hp : σ[i]? = some (some (.ref p))) (hn : OwnAt K F (upd H p o) p d') :
    Rel K C F σ (upd H p o) (env.set i (.own b d')) := by
  obtain ⟨p', e1, pF, oa, e2, e3⟩ := r.owns i b d hi
  rw [hp] at e1
  have ep : p = p' := by injection e1 with e1; injection e1 with e1; injection e1
  subst ep
  have hlt : i < env.length := by
    rw [List.getElem?_eq_some_iff] at hi; exact hi.1
  have gs : ∀ (j : Nat), (env.set i (.own b d'))[j]? = if j = i then some (Sl.own b d') else env[j]? := fun j => by
    by_cases e : j = i
    · subst e; rw [if_pos rfl, List.getElem?_set_self hlt]
    · rw [if_neg e, List.getElem?_set_ne (fun q => e q.symm)]
  have eo : off F (upd H p o) = off F H := off_upd pF
  refine ⟨by rw [List.length_set]; exact r.len, fun j e h => ?_, fun j c e h => ?_, fun j k c c' e e' q ne h1 h2 s1 s2 => ?_, fun j q h => ?_, r.sub, fun a u h q => ?_, fun q h => ?_, r.base, r.pmF, fun a u h => ?_⟩
  · rw [gs] at h
    by_cases z : j = i
    · rw [if_pos z] at h; cases h
    · rw [if_neg z] at h; rw [eo]; exact r.vals j e h
  · rw [gs] at h
    by_cases z : j = i
    · rw [if_pos z] at h; cases h; subst z; exact ⟨p, hp, pF, hn, e2, e3⟩
    · rw [if_neg z] at h
      obtain ⟨q, s1, qF, oq, e4, e5⟩ := r.owns j c e h
      have qp : q ≠ p := fun x => r.apart j i c b e d p z h hi (x ▸ s1) hp
      exact ⟨q, s1, qF, oq.to (by rw [eo]; exact Ex.refl _) (upd_ne qp), e4, e5⟩
  · have hh : ∀ (m : Nat) cc ee, (env.set i (.own b d'))[m]? = some (.own cc ee) → ∃ ff, env[m]? = some (.own cc ff) := fun m cc ee hm => by
      rw [gs] at hm
      by_cases z : m = i
      · rw [if_pos z] at hm; cases hm; subst z; exact ⟨d, hi⟩
      · rw [if_neg z] at hm; exact ⟨ee, hm⟩
    obtain ⟨f1, g1⟩ := hh j c e h1
    obtain ⟨f2, g2⟩ := hh k c' e' h2
    exact r.apart j k c c' f1 f2 q ne g1 g2 s1 s2
  · obtain ⟨s1, dd, hd⟩ := r.pars j q h
    refine ⟨s1, ?_⟩
    rw [gs]
    by_cases z : j = i
    · subst z; rw [if_pos rfl]; rw [hi] at hd; cases hd; exact ⟨d', rfl⟩
    · rw [if_neg z]; exact ⟨dd, hd⟩
  · have ap : a ≠ p := by
      intro x; subst x
      cases b with
      | true => exact h i (e2 rfl)
      | false => rw [e3 rfl] at q; cases q
    rw [upd_ne ap]; exact r.old a u h q
  · by_cases z : q = p
    · subst z; exact ⟨o, upd_same⟩
    · rw [upd_ne z]; exact r.live q h
  · obtain ⟨x, y, z⟩ := r.pins a u h
    have ne : a ≠ p := fun w => z i b d hi (by rw [w]; exact hp)
    refine ⟨by rw [upd_ne ne]; exact x, y, fun j c e he => ?_⟩
    rw [gs] at he
    by_cases w : j = i
    · subst w; exact z j b d hi
    · rw [if_neg w] at he; exact z j c e he
/-- a slot set to a value: it may not be one by reference -/
theorem Rel.set (r : Rel K C F σ H env) {i : Nat} {v : V} {d : D} (hi : ∀ d', env[i]? ≠ some (.own true d')) (hv : Rep K (off F H) v d) : Rel K C F (σ.set i (some v)) H (env.set i (.val d)) := by
  have gs : ∀ (j : Nat) s, (env.set i (.val d))[j]? = some s → (j = i ∧ s = .val d ∧ i < env.length) ∨ (j ≠ i ∧ env[j]? = some s) := fun j s h => by
    by_cases e : j = i
    · subst e
      by_cases hl : j < env.length
      · rw [List.getElem?_set_self hl] at h; cases h; exact .inl ⟨rfl, rfl, hl⟩
      · rw [List.getElem?_eq_none (by rw [List.length_set]; omega)] at h; cases h
    · rw [List.getElem?_set_ne (fun q => e q.symm)] at h; exact .inr ⟨e, h⟩
  have st : ∀ (j : Nat), j ≠ i → (σ.set i (some v))[j]? = σ[j]? := fun j e => List.getElem?_set_ne (fun q => e q.symm)
  refine ⟨by rw [List.length_set, List.length_set]; exact r.len, fun j e h => ?_, fun j c e h => ?_, fun j k c c' e e' q ne h1 h2 s1 s2 => ?_, fun j q h => ?_, r.sub, r.old, r.live, r.base, r.pmF, fun a u h => ?_⟩
  · rcases gs j _ h with ⟨rfl, hs, hl⟩ | ⟨ne, h⟩
    · cases hs; exact ⟨v, by rw [List.getElem?_set_self (by rw [r.len]; exact hl)], hv⟩
    · rw [st j ne]; exact r.vals j e h
  · rcases gs j _ h with ⟨_, hs, _⟩ | ⟨ne, h⟩
    · cases hs
    · rw [st j ne]; exact r.owns j c e h
  · rcases gs j _ h1 with ⟨_, hs, _⟩ | ⟨ne1, h1⟩
    · cases hs
    · rcases gs k _ h2 with ⟨_, hs, _⟩ | ⟨ne2, h2⟩
      · cases hs
      · rw [st j ne1] at s1; rw [st k ne2] at s2
        exact r.apart j k c c' e e' q ne h1 h2 s1 s2
  · obtain ⟨s1, dd, hd⟩ := r.pars j q h
    have ne : j ≠ i := fun x => hi dd (x ▸ hd)
    exact ⟨(st j ne).trans s1, dd, by rw [List.getElem?_set_ne (fun q => ne q.symm)]; exact hd⟩
  · obtain ⟨x, y, z⟩ := r.pins a u h
    refine ⟨x, y, fun j c e he => ?_⟩
    rcases gs j _ he with ⟨_, hs, _⟩ | ⟨ne, he⟩
    · cases hs
    · rw [st j ne]; exact z j c e he
/-- a slot set to a new object of one's own -/
theorem Rel.setOwn (r : Rel K C F σ H env) {i : Nat} {p : Addr} {d : D} (hi : ∀ d', env[i]? ≠ some (.own true d')) (hp : p ∈ F) (h0 : C.H0 p = none) (hpin : C.pin p = none) (hq : ∀ (j : Nat) b e, env[j]? = some (.own b e) → σ[j]? ≠ some (some (.ref p))) (hv : OwnAt K F H p d) :
    Rel K C F (σ.set i (some (.ref p))) H (env.set i (.own false d)) := by
  have gs : ∀ (j : Nat) s, (env.set i (.own false d))[j]? = some s → (j = i ∧ s = .own false d ∧ i < env.length) ∨ (j ≠ i ∧ env[j]? = some s) := fun j s h => by
    by_cases e : j = i
    · subst e
      by_cases hl : j < env.length
      · rw [List.getElem?_set_self hl] at h; cases h; exact .inl ⟨rfl, rfl, hl⟩
      · rw [List.getElem?_eq_none (by rw [List.length_set]; omega)] at h; cases h
    · rw [List.getElem?_set_ne (fun q => e q.symm)] at h; exact .inr ⟨e, h⟩
  have st : ∀ (j : Nat), j ≠ i → (σ.set i (some (.ref p)))[j]? = σ[j]? := fun j e => List.getElem?_set_ne (fun q => e q.symm)
  refine ⟨by rw [List.length_set, List.length_set]; exact r.len, fun j e h => ?_, fun j c e h => ?_, fun j k c c' e e' q ne h1 h2 s1 s2 => ?_, fun j q h => ?_, r.sub, r.old, r.live, r.base, r.pmF, fun a u h => ?_⟩
  · rcases gs j _ h with ⟨_, hs, _⟩ | ⟨ne, h⟩
    · cases hs
    · rw [st j ne]; exact r.vals j e h
  · rcases gs j _ h with ⟨rfl, hs, hl⟩ | ⟨ne, h⟩
    · cases hs; exact ⟨p, by rw [List.getElem?_set_self (by rw [r.len]; exact hl)], hp, hv, by simp, fun _ => h0⟩
    · rw [st j ne]; exact r.owns j c e h
  · rcases gs j _ h1 with ⟨z1, hs, l1⟩ | ⟨ne1, h1⟩
    · rcases gs k _ h2 with ⟨z2, _, _⟩ | ⟨ne2, h2'⟩
      · exact ne (z1.trans z2.symm)
      · rw [st k ne2] at s2
        rw [z1, List.getElem?_set_self (by rw [r.len]; exact l1)] at s1
        cases s1
        exact hq k _ _ h2' s2
    · rcases gs k _ h2 with ⟨z2, _, l2⟩ | ⟨ne2, h2⟩
      · rw [st j ne1] at s1
        rw [z2, List.getElem?_set_self (by rw [r.len]; exact l2)] at s2
        cases s2
        exact hq j _ _ h1 s1
      · rw [st j ne1] at s1; rw [st k ne2] at s2
        exact r.apart j k c c' e e' q ne h1 h2 s1 s2
  · obtain ⟨s1, dd, hd⟩ := r.pars j q h
    have ne : j ≠ i := fun x => hi dd (x ▸ hd)
    exact ⟨(st j ne).trans s1, dd, by rw [List.getElem?_set_ne (fun q => ne q.symm)]; exact hd⟩
  · obtain ⟨x, y, z⟩ := r.pins a u h
    refine ⟨x, y, fun j c e he => ?_⟩
    rcases gs j _ he with ⟨w, hs, hl⟩ | ⟨ne, he⟩
    · subst w
      rw [List.getElem?_set_self (by rw [r.len]; exact hl)]
      intro q; cases q
      rw [hpin] at h; cases h
    · rw [st j ne]; exact z j c e he
/-- a new object p is laid and is one's own from now on, in no slot yet -/
theorem Rel.laid (r : Rel K C F σ H env) {p : Addr} {o : HO} (h : H p = none) : Rel K C (p :: F) σ (upd H p o) env where
  len := r.len
  vals := fun i d q => let ⟨v, a, b⟩ := r.vals i d q; ⟨v, a, b.mono (off_cons h)⟩
  owns := fun i b d q => by
    obtain ⟨x, a, m, oa, c⟩ := r.owns i b d q
    obtain ⟨u, hu⟩ := oa.live
    exact ⟨x, a, List.mem_cons_of_mem _ m, oa.to (off_cons h) (upd_ne (ne_of_none hu h)), c⟩
  apart := r.apart
  pars := r.pars
  sub := fun x q => List.mem_cons_of_mem _ (r.sub x q)
  old := fun a u q z => Ex.new h a u (r.old a u q z)
  live := fun x q => by
    rcases List.mem_cons.mp q with q | q
    · subst q; exact ⟨o, upd_same⟩
    · obtain ⟨u, hu⟩ := r.live x q
      exact ⟨u, Ex.new h x u hu⟩
  base := r.base
  pmF := r.pmF
  pins := fun a u q => let ⟨x, y, z⟩ := r.pins a u q; ⟨Ex.new h a u x, List.mem_cons_of_mem _ y, z⟩
/-- one's own object p in no slot is given up -/
theorem Rel.drop (r : Rel K C F σ H env) {p : Addr} (h0 : C.H0 p = none) (hpin : C.pin p = none) (hq : ∀ (j : Nat) b e, env[j]? = some (.own b e) → σ[j]? ≠ some (some (.ref p))) : Rel K C (F.filter (· ≠ p)) σ H env := by
  have sub : ∀ q ∈ F.filter (· ≠ p), q ∈ F := fun q h => (List.mem_filter.mp h).1
  refine ⟨r.len, fun i d q => let ⟨v, a, b⟩ := r.vals i d q; ⟨v, a, b.mono (off_sub sub)⟩, fun i b d q => ?_, r.apart, r.pars, fun x q => ?_, r.old, fun x q => r.live x (sub x q), r.base, r.pmF, fun a u h => ?_⟩
  · obtain ⟨x, a, m, oa, c⟩ := r.owns i b d q
    exact ⟨x, a, List.mem_filter.mpr ⟨m, decide_eq_true (fun z => hq i b d q (z ▸ a))⟩, oa.to (off_sub sub) rfl, c⟩
  · refine List.mem_filter.mpr ⟨r.sub x q, decide_eq_true (fun z => ?_)⟩
    obtain ⟨o, ho⟩ := r.base x q
    rw [z, h0] at ho; cases ho
  · obtain ⟨x, y, z⟩ := r.pins a u h
    exact ⟨x, List.mem_filter.mpr ⟨y, decide_eq_true (fun w => by rw [w, hpin] at h; cases h)⟩, z⟩
/-- a slot's own object is given up: it is a value from now on -/
theorem Rel.freeze (r : Rel K C F σ H env) {i : Nat} {d : D} (hi : env[i]? = some (.own false d)) : ∃ F', Rel K C F' σ H (env.set i (.val d)) ∧ Ex (off F H) (off F' H) := by
  obtain ⟨p, hp, pF, oa, _, e3⟩ := r.owns i _ d hi
  have hlt : i < env.length := by
    rw [List.getElem?_eq_some_iff] at hi; exact hi.1
  have gs : ∀ (j : Nat) s, (env.set i (.val d))[j]? = some s → (j = i ∧ s = .val d) ∨ (j ≠ i ∧ env[j]? = some s) := fun j s h => by
    by_cases e : j = i
    · subst e; rw [List.getElem?_set_self hlt] at h; cases h; exact .inl ⟨rfl, rfl⟩
    · rw [List.getElem?_set_ne (fun q => e q.symm)] at h; exact .inr ⟨e, h⟩
  have sub : ∀ q ∈ F.filter (· ≠ p), q ∈ F := fun q h => (List.mem_filter.mp h).1
  have hpF : p ∉ F.filter (· ≠ p) := fun h => by
    have := (List.mem_filter.mp h).2
    simp at this
  refine ⟨F.filter (· ≠ p), ⟨by rw [List.length_set]; exact r.len, fun j e h => ?_, fun j c e h => ?_, fun j k c c' e e' q ne h1 h2 s1 s2 => ?_, fun j q h => ?_, fun x q => ?_, r.old, fun x q => r.live x (sub x q), r.base, r.pmF, fun a u h => ?_⟩, off_sub sub⟩
  · rcases gs j _ h with ⟨rfl, hs⟩ | ⟨_, h⟩
    · cases hs; exact ⟨.ref p, hp, oa.rep sub hpF⟩
    · obtain ⟨v, a, b⟩ := r.vals j e h
      exact ⟨v, a, b.mono (off_sub sub)⟩
  · rcases gs j _ h with ⟨_, hs⟩ | ⟨ne, h⟩
    · cases hs
    · obtain ⟨x, a, m, ob, c2⟩ := r.owns j c e h
      refine ⟨x, a, List.mem_filter.mpr ⟨m, decide_eq_true (fun z => r.apart j i c false e d p ne h hi (z ▸ a) hp)⟩, ob.to (off_sub sub) rfl, c2⟩
  · rcases gs j _ h1 with ⟨_, hs⟩ | ⟨_, h1⟩
    · cases hs
    · rcases gs k _ h2 with ⟨_, hs⟩ | ⟨_, h2⟩
      · cases hs
      · exact r.apart j k c c' e e' q ne h1 h2 s1 s2
  · obtain ⟨s1, dd, hd⟩ := r.pars j q h
    have ne : j ≠ i := fun x => by subst x; rw [hi] at hd; cases hd
    exact ⟨s1, dd, by rw [List.getElem?_set_ne (fun q => ne q.symm)]; exact hd⟩
  · refine List.mem_filter.mpr ⟨r.sub x q, decide_eq_true (fun z => ?_)⟩
    obtain ⟨o, ho⟩ := r.base x q
    rw [z, e3 rfl] at ho; cases ho
  · obtain ⟨x, y, z⟩ := r.pins a u h
    refine ⟨x, List.mem_filter.mpr ⟨y, decide_eq_true (fun w => z i false d hi (by rw [w]; exact hp))⟩, fun j c e he => ?_⟩
    rcases gs j _ he with ⟨_, hs⟩ | ⟨_, he⟩
    · cases hs
    · exact z j c e he
theorem Rel.nopin (r : Rel K C F σ H env) {p : Addr} (h : H p = none) : C.pin p = none := by
  cases q : C.pin p with
  | none => rfl
  | some o => rw [(r.pins p o q).1] at h; cases h
/-- one more object stands still -/
theorem Rel.pinned (r : Rel K C F σ H env) {a : Addr} {o : HO} (h : H a = some o) (hF : a ∈ F) (hs : ∀ (i : Nat) b d, env[i]? = some (.own b d) → σ[i]? ≠ some (some (.ref a))) : Rel K { C with pin := upd C.pin a o } F σ H env :=
  ⟨r.len, r.vals, r.owns, r.apart, r.pars, r.sub, r.old, r.live, r.base, r.pmF, fun b u q => by
    by_cases e : b = a
    · subst e
      have q' : upd C.pin b o b = some u := q
      rw [upd_same] at q'; cases q'
      exact ⟨h, hF, hs⟩
    · have q' : upd C.pin a o b = some u := q
      rw [upd_ne e] at q'
      exact r.pins b u q'⟩
theorem Rel.unpinned {a : Addr} {o : HO} (r : Rel K { C with pin := upd C.pin a o } F σ H env) (h : C.pin a = none) : Rel K C F σ H env :=
  ⟨r.len, r.vals, r.owns, r.apart, r.pars, r.sub, r.old, r.live, r.base, r.pmF, fun b u q => by
    have ne : b ≠ a := fun e => by rw [e, h] at q; cases q
    exact r.pins b u (show upd C.pin a o b = some u by rw [upd_ne ne]; exact q)⟩
/-- a slot is forgotten: not one by reference -/
theorem Rel.unset (r : Rel K C F σ H env) {i : Nat} (hi : ∀ p, (i, p) ∉ C.pm) : Rel K C F (σ.set i none) H (env.set i .un) := by
  have gs : ∀ (j : Nat) s, s ≠ Sl.un → (env.set i .un)[j]? = some s → j ≠ i ∧ env[j]? = some s := fun j s hs h => by
    by_cases e : j = i
    · subst e
      by_cases hl : j < env.length
      · rw [List.getElem?_set_self hl] at h; cases h; exact absurd rfl hs
      · rw [List.getElem?_eq_none (by rw [List.length_set]; omega)] at h; cases h
    · rw [List.getElem?_set_ne (fun q => e q.symm)] at h; exact ⟨e, h⟩
  have st : ∀ (j : Nat), j ≠ i → (σ.set i none)[j]? = σ[j]? := fun j e => List.getElem?_set_ne (fun q => e q.symm)
  refine ⟨by rw [List.length_set, List.length_set]; exact r.len, fun j e h => ?_, fun j c e h => ?_, fun j k c c' e e' q ne h1 h2 s1 s2 => ?_, fun j q h => ?_, r.sub, r.old, r.live, r.base, r.pmF, fun a u h => ?_⟩
  · obtain ⟨ne, h⟩ := gs j _ (by simp) h
    rw [st j ne]; exact r.vals j e h
  · obtain ⟨ne, h⟩ := gs j _ (by simp) h
    rw [st j ne]; exact r.owns j c e h
  · obtain ⟨ne1, h1⟩ := gs j _ (by simp) h1
    obtain ⟨ne2, h2⟩ := gs k _ (by simp) h2
    rw [st j ne1] at s1; rw [st k ne2] at s2
    exact r.apart j k c c' e e' q ne h1 h2 s1 s2
  · obtain ⟨s1, dd, hd⟩ := r.pars j q h
    have ne : j ≠ i := fun x => hi q (x ▸ h)
    exact ⟨(st j ne).trans s1, dd, by rw [List.getElem?_set_ne (fun q => ne q.symm)]; exact hd⟩
  · obtain ⟨x, y, z⟩ := r.pins a u h
    refine ⟨x, y, fun j c e he => ?_⟩
    obtain ⟨ne, he⟩ := gs j _ (by simp) he
    rw [st j ne]; exact z j c e he
end
end Mir
/-! Sim: a reading of the hand layer follows from a run of the mirror. Expressions. -/
namespace Mir
open PySem L2
abbrev ME := Env → Option (D × Env)
abbrev MT := Env → Option (Bool × Env)
/-- an operand: an expression, or a slot that is read where it is used -/
inductive Arg where
  | e (m : ME) | s (i : Nat)
abbrev AV := D ⊕ Nat
def slotD (env : Env) (i : Nat) : Option D := match env[i]? with
  | some (.val d) => some d
  | some (.own _ d) => some d
  | _ => none
def Arg.run : Arg → Env → Option (AV × Env)
  | .e m, env => match m env with | some (d, env') => some (.inl d, env') | none => none
  | .s i, env => match slotD env i with | some _ => some (.inr i, env) | none => none
def getA (env : Env) : AV → Option D
  | .inl d => some d
  | .inr i => slotD env i
def runArgs : List Arg → Env → Option (List AV × Env)
  | [], env => some ([], env)
  | a :: as, env => match a.run env with
    | some (r, env1) => match runArgs as env1 with
      | some (rs, env2) => some (r :: rs, env2)
      | none => none
    | none => none
def getAll (env : Env) : List AV → Option (List D)
  | [] => some []
  | r :: rs => match getA env r with
    | some d => match getAll env rs with
      | some ds => some (d :: ds)
      | none => none
    | none => none
/-- what a borrowed or a plain value is worth -/
def RepB (K : Fg) (F : List Addr) (H : Hp) (v : V) (d : D) : Prop := Rep K (off F H) v d ∨ ∃ p, v = .ref p ∧ OwnAt K F H p d
inductive RepBs (K : Fg) (F : List Addr) (H : Hp) : List V → List D → Prop
  | nil : RepBs K F H [] []
  | cons {v : V} {vs : List V} {d : D} {ds : List D} : RepB K F H v d → RepBs K F H vs ds → RepBs K F H (v :: vs) (d :: ds)
def RepA (K : Fg) (F : List Addr) (H : Hp) (σ : L2.St) (v : V) : AV → Prop
  | .inl d => Rep K (off F H) v d
  | .inr i => σ[i]? = some (some v)
inductive RepAs (K : Fg) (F : List Addr) (H : Hp) (σ : L2.St) : List V → List AV → Prop
  | nil : RepAs K F H σ [] []
  | cons {v : V} {vs : List V} {r : AV} {rs : List AV} : RepA K F H σ v r → RepAs K F H σ vs rs → RepAs K F H σ (v :: vs) (r :: rs)
section
variable {K : Fg} {C : Cfg} {F : List Addr} {σ : L2.St} {H H' : Hp} {env env' : Env} {v : V} {d : D}
theorem RepB.full (h : RepB K F H v d) : Rep K H v d := by
  rcases h with h | ⟨p, rfl, o⟩
  · exact h.mono off_ex
  · have := o.rep (F' := []) (fun q h => by cases h) (by simp)
    exact this.mono off_ex
theorem RepA.mono (e : Ex (off F H) (off F H')) {r : AV} (h : RepA K F H σ v r) : RepA K F H' σ v r := by
  cases r with
  | inl d => exact Rep.mono e h
  | inr i => exact h
theorem RepA.val (r : Rel K C F σ H env) {a : AV} (h : RepA K F H σ v a) (g : getA env a = some d) : RepB K F H v d := by
  cases a with
  | inl d' => cases g; exact .inl h
  | inr i =>
    have hs : σ[i]? = some (some v) := h
    have g' : slotD env i = some d := g
    unfold slotD at g'
    split at g'
    · rename_i d' he
      cases g'
      obtain ⟨w, hw, hr⟩ := r.vals i _ he
      rw [hs] at hw; cases hw
      exact .inl hr
    · rename_i b d' he
      cases g'
      obtain ⟨p, hp, _, ho, _⟩ := r.owns i _ _ he
      rw [hs] at hp; cases hp
      exact .inr ⟨p, rfl, ho⟩
    · cases g'
theorem RepAs.vals (r : Rel K C F σ H env) : ∀ {vs : List V} {as : List AV} {ds : List D}, RepAs K F H σ vs as → getAll env as = some ds → RepBs K F H vs ds
  | _, _, _, .nil, g => by cases g; exact .nil
  | _, _, _, .cons h t, g => by
    unfold getAll at g
    split at g
    · rename_i d hd
      split at g
      · rename_i ds hds
        cases g
        exact .cons (h.val r hd) (RepAs.vals r t hds)
      · cases g
    · cases g
end
/-! ### Sim -/
def SimE (K : Fg) (te : TE) (m : ME) : Prop := ∀ (C : Cfg) (F : List Addr) (σ : L2.St) (H : Hp) (env : Env) (d : D) (env' : Env) (Q : VK), Rel K C F σ H env → m env = some (d, env') →
  (∀ v H', Rel K C F σ H' env' → Ex (off F H) (off F H') → Rep K (off F H') v d → Q v H') → te σ H Q
def SimX (K : Fg) (te : TE) (a : Arg) : Prop := ∀ (C : Cfg) (F : List Addr) (σ : L2.St) (H : Hp) (env : Env) (r : AV) (env' : Env) (Q : VK), Rel K C F σ H env → a.run env = some (r, env') →
  (∀ v H', Rel K C F σ H' env' → Ex (off F H) (off F H') → RepA K F H' σ v r → Q v H') → te σ H Q
def SimT (K : Fg) (tt : TT) (m : MT) : Prop := ∀ (C : Cfg) (F : List Addr) (σ : L2.St) (H : Hp) (env : Env) (b : Bool) (env' : Env) (Q : Bool → Hp → Prop), Rel K C F σ H env → m env = some (b, env') →
  (∀ H', Rel K C F σ H' env' → Ex (off F H) (off F H') → Q b H') → tt σ H Q
/-- a new object -/
def SimN (K : Fg) (te : TE) (m : ME) : Prop := ∀ (C : Cfg) (F : List Addr) (σ : L2.St) (H : Hp) (env : Env) (d : D) (env' : Env) (Q : VK), Rel K C F σ H env → m env = some (d, env') →
  (∀ p H', H p = none → (∀ (j : Nat) b e, env'[j]? = some (.own b e) → σ[j]? ≠ some (some (.ref p))) → Rel K C (p :: F) σ H' env' → Ex (off F H) (off (p :: F) H') → OwnAt K (p :: F) H' p d → Q (.ref p) H') → te σ H Q
def SimA (K : Fg) (ta : TA) (as : List Arg) : Prop := ∀ (C : Cfg) (F : List Addr) (σ : L2.St) (H : Hp) (env : Env) (rs : List AV) (env' : Env) (Q : List V → Hp → Prop), Rel K C F σ H env → runArgs as env = some (rs, env') →
  (∀ vs H', Rel K C F σ H' env' → Ex (off F H) (off F H') → RepAs K F H' σ vs rs → Q vs H') → ta σ H Q

/-! operations by values -/
def ROp (K : Fg) (r : R2) (f : D → D → Option D) : Prop := ∀ (F : List Addr) (H : Hp) (x y : V) (a b d : D) (Q : VK), (∀ p ∈ F, ∃ o, H p = some o) → RepB K F H x a → RepB K F H y b → f a b = some d →
  (∀ v H', Ex H H' → Rep K (off F H') v d → Q v H') → r x y H Q
def RUn (K : Fg) (r : V → Hp → VK → Prop) (f : D → Option D) : Prop := ∀ (F : List Addr) (H : Hp) (x : V) (a d : D) (Q : VK), (∀ p ∈ F, ∃ o, H p = some o) → RepB K F H x a → f a = some d →
  (∀ v H', Ex H H' → Rep K (off F H') v d → Q v H') → r x H Q
def RCl (K : Fg) (r : List V → Hp → VK → Prop) (f : List D → Option D) : Prop := ∀ (F : List Addr) (H : Hp) (xs : List V) (as : List D) (d : D) (Q : VK), (∀ p ∈ F, ∃ o, H p = some o) → RepBs K F H xs as → f as = some d →
  (∀ v H', Ex H H' → Rep K (off F H') v d → Q v H') → r xs H Q

/-! ### the mirror's expressions -/
def mC (d : D) : ME := fun env => some (d, env)
def mVar (i : Nat) : ME := fun env => match env[i]? with
  | some (.val d) => some (d, env)
  | _ => none
def mOp (f : D → D → Option D) (a b : Arg) : ME := fun env => match a.run env with
  | some (x, env1) => match b.run env1 with
    | some (y, env2) => match getA env2 x with
      | some dx => match getA env2 y with
        | some dy => match f dx dy with
          | some d => some (d, env2)
          | none => none
        | none => none
      | none => none
    | none => none
  | none => none
def mUn (f : D → Option D) (a : Arg) : ME := fun env => match a.run env with
  | some (x, env1) => match getA env1 x with
    | some dx => match f dx with
      | some d => some (d, env1)
      | none => none
    | none => none
  | none => none
def mCB (f : List D → Option D) (as : List Arg) : ME := fun env => match runArgs as env with
  | some (rs, env1) => match getAll env1 rs with
    | some ds => match f ds with
      | some d => some (d, env1)
      | none => none
    | none => none
  | none => none
def mTup (as : List Arg) : ME := fun env => match runArgs as env with
  | some (rs, env1) => match getAll env1 rs with
    | some ds => some (.tup ds, env1)
    | none => none
  | none => none
def mIf (t : MT) (a b : ME) : ME := fun env => match t env with
  | some (true, env1) => a env1
  | some (false, env1) => b env1
  | none => none
def tB' (d : D) : Option Bool := match d with | .bl b => some b | _ => none
def mTest (m : ME) : MT := fun env => match m env with
  | some (.bl b, env1) => some (b, env1)
  | _ => none
def mAnd (a b : MT) : MT := fun env => match a env with
  | some (true, env1) => b env1
  | some (false, env1) => some (false, env1)
  | none => none
def mOr (a b : MT) : MT := fun env => match a env with
  | some (true, env1) => some (true, env1)
  | some (false, env1) => b env1
  | none => none
def mNot (a : MT) : MT := fun env => match a env with
  | some (b, env1) => some (!b, env1)
  | none => none
def mBool (a : MT) : ME := fun env => match a env with
  | some (b, env1) => some (.bl b, env1)
  | none => none
section
variable {K : Fg} {ta tb te : TE} {m ma mb : ME} {a b : Arg} {t u : TT} {mt mu : MT}
theorem sim_c_non : SimE K (tC .non) (mC .non) := fun C F σ H env d env' Q r e q => by cases e; exact q _ _ r (Ex.refl _) .non
theorem sim_c_bl {b : Bool} : SimE K (tC (.bl b)) (mC (.bl b)) := fun C F σ H env d env' Q r e q => by cases e; exact q _ _ r (Ex.refl _) (.bl b)
theorem sim_c_int {i : Int} : SimE K (tC (.int i)) (mC (.int i)) := fun C F σ H env d env' Q r e q => by cases e; exact q _ _ r (Ex.refl _) (.int i)
theorem sim_c_str {x : Str} : SimE K (tC (.str x)) (mC (.str x)) := fun C F σ H env d env' Q r e q => by cases e; exact q _ _ r (Ex.refl _) (.str x)
theorem sim_var {i : Nat} : SimE K (tVar i) (mVar i) := fun C F σ H env d env' Q r e q => by
  unfold mVar at e
  split at e
  · rename_i d' he
    cases e
    obtain ⟨v, hv, hr⟩ := r.vals i _ he
    exact ⟨v, hv, q v H r (Ex.refl _) hr⟩
  · cases e
theorem simX_e (h : SimE K te m) : SimX K te (.e m) := fun C F σ H env r env' Q hr e q => by
  unfold Arg.run at e
  dsimp only at e
  split at e
  · rename_i d env1 he
    cases e
    exact h C F σ H env d _ Q hr he q
  · cases e
theorem simX_s {i : Nat} : SimX K (tVar i) (.s i) := fun C F σ H env r env' Q hr e q => by
  unfold Arg.run at e
  dsimp only at e
  split at e
  · rename_i d0 g
    cases e
    unfold slotD at g
    split at g
    · rename_i d he
      obtain ⟨v, hv, _⟩ := hr.vals i _ he
      exact ⟨v, hv, q v H hr (Ex.refl _) hv⟩
    · rename_i b d he
      obtain ⟨p, hp, _⟩ := hr.owns i _ _ he
      exact ⟨.ref p, hp, q _ H hr (Ex.refl _) hp⟩
    · cases g
  · cases e
theorem sim_op {r : R2} {f : D → D → Option D} (hr : ROp K r f) (ha : SimX K ta a) (hb : SimX K tb b) : SimE K (tOp r ta tb) (mOp f a b) := fun C F σ H env d env' Q rl e q => by
  unfold mOp at e
  split at e
  · rename_i x env1 h1
    split at e
    · rename_i y env2 h2
      split at e
      · rename_i dx hx
        split at e
        · rename_i dy hy
          split at e
          · rename_i d' hd
            cases e
            refine ha C F σ H env x env1 _ rl h1 fun v1 H1 r1 e1 p1 => ?_
            refine hb C F σ H1 env1 y env' _ r1 h2 fun v2 H2 r2 e2 p2 => ?_
            refine hr F H2 v1 v2 dx dy d Q r2.live ((p1.mono e2).val r2 hx) (p2.val r2 hy) hd fun v H3 e3 p3 => ?_
            exact q v H3 (r2.grow e3) ((e1.trans e2).trans (off_mono e3)) p3
          · cases e
        · cases e
      · cases e
    · cases e
  · cases e
theorem sim_un {r : V → Hp → VK → Prop} {f : D → Option D} (hr : RUn K r f) (ha : SimX K ta a) : SimE K (tUn r ta) (mUn f a) := fun C F σ H env d env' Q rl e q => by
  unfold mUn at e
  split at e
  · rename_i x env1 h1
    split at e
    · rename_i dx hx
      split at e
      · rename_i d' hd
        cases e
        refine ha C F σ H env x env' _ rl h1 fun v1 H1 r1 e1 p1 => ?_
        refine hr F H1 v1 dx d Q r1.live (p1.val r1 hx) hd fun v H3 e3 p3 => ?_
        exact q v H3 (r1.grow e3) (e1.trans (off_mono e3)) p3
      · cases e
    · cases e
  · cases e
/-! operands in a row -/
theorem sim_nil : SimA K tNil [] := fun C F σ H env rs env' Q r e q => by cases e; exact q _ _ r (Ex.refl _) .nil
theorem sim_cons {tr : TA} {as : List Arg} (ha : SimX K ta a) (hs : SimA K tr as) : SimA K (tCons ta tr) (a :: as) := fun C F σ H env rs env' Q rl e q => by
  unfold runArgs at e
  split at e
  · rename_i r env1 h1
    split at e
    · rename_i rs' env2 h2
      cases e
      refine ha C F σ H env r env1 _ rl h1 fun v1 H1 r1 e1 p1 => ?_
      refine hs C F σ H1 env1 rs' env' _ r1 h2 fun vs H2 r2 e2 p2 => ?_
      exact q (v1 :: vs) H2 r2 (e1.trans e2) (.cons (p1.mono e2) p2)
    · cases e
  · cases e
theorem RepAs.length {F : List Addr} {H : Hp} {σ : L2.St} : ∀ {vs : List V} {rs : List AV}, RepAs K F H σ vs rs → vs.length = rs.length
  | _, _, .nil => rfl
  | _, _, .cons _ r => congrArg Nat.succ (RepAs.length r)
theorem runArgs_length : ∀ {as : List Arg} {env : Env} {rs : List AV} {env' : Env}, runArgs as env = some (rs, env') → rs.length = as.length
  | [], _, _, _, e => by cases e; rfl
  | a :: as, env, rs, env', e => by
    unfold runArgs at e
    split at e
    · split at e
      · rename_i h2
        cases e
        rw [List.length_cons, List.length_cons, runArgs_length h2]
      · cases e
    · cases e
theorem sim_cb {r : List V → Hp → VK → Prop} {f : List D → Option D} {tr : TA} {as : List Arg} (hr : RCl K r f) (ha : SimA K tr as) : SimE K (tCB r tr) (mCB f as) := fun C F σ H env d env' Q rl e q => by
  unfold mCB at e
  split at e
  · rename_i x env1 h1
    split at e
    · rename_i dx hx
      split at e
      · rename_i d' hd
        cases e
        refine ha C F σ H env x env' _ rl h1 fun v1 H1 r1 e1 p1 => ?_
        refine hr F H1 v1 dx d Q r1.live (p1.vals r1 hx) hd fun v H3 e3 p3 => ?_
        exact q v H3 (r1.grow e3) (e1.trans (off_mono e3)) p3
      · cases e
    · cases e
  · cases e
/-- values only: no slot that is one's own -/
def getAllV (env : Env) : List AV → Option (List D)
  | [] => some []
  | .inl d :: rs => match getAllV env rs with | some ds => some (d :: ds) | none => none
  | .inr i :: rs => match env[i]? with
    | some (.val d) => match getAllV env rs with | some ds => some (d :: ds) | none => none
    | _ => none
theorem RepAs.reps {C : Cfg} {F : List Addr} {H : Hp} {σ : L2.St} {env : Env} (r : Rel K C F σ H env) : ∀ {vs : List V} {as : List AV} {ds : List D}, RepAs K F H σ vs as → getAllV env as = some ds → Reps K (off F H) vs ds
  | _, _, _, .nil, g => by cases g; exact .nil
  | _, .inl d :: rs, _, .cons h t, g => by
    unfold getAllV at g
    split at g
    · rename_i ds hds
      cases g
      exact .cons h (RepAs.reps r t hds)
    · cases g
  | _, .inr i :: rs, _, .cons h t, g => by
    unfold getAllV at g
    split at g
    · rename_i d he
      split at g
      · rename_i ds hds
        cases g
        obtain ⟨w, hw, hr⟩ := r.vals i _ he
        have hh : σ[i]? = some (some _) := h
        rw [hh] at hw; cases hw
        exact .cons hr (RepAs.reps r t hds)
      · cases g
    · cases g
theorem Rel.h0 {C : Cfg} {F : List Addr} {H : Hp} {σ : L2.St} {env : Env} (r : Rel K C F σ H env) {p : Addr} (h : H p = none) : C.H0 p = none := by
  cases h0 : C.H0 p with
  | none => rfl
  | some o =>
    by_cases hx : ∃ i, (i, p) ∈ C.pm
    · obtain ⟨i, hi⟩ := hx
      obtain ⟨u, hu⟩ := r.live p (r.sub p (r.pmF i p hi))
      rw [h] at hu; cases hu
    · have := r.old p o (fun i hi => hx ⟨i, hi⟩) h0
      rw [h] at this; cases this
theorem Rel.noslot {C : Cfg} {F : List Addr} {H : Hp} {σ : L2.St} {env : Env} (r : Rel K C F σ H env) {p : Addr} (h : H p = none) {j : Nat} {b : Bool} {e : D} (q : env[j]? = some (.own b e)) : σ[j]? ≠ some (some (.ref p)) := fun z => by
  obtain ⟨x, hx, _, o, _⟩ := r.owns j b e q
  rw [z] at hx; cases hx
  obtain ⟨u, hu⟩ := o.live
  rw [h] at hu; cases hu
theorem Rel.notin {C : Cfg} {F : List Addr} {H : Hp} {σ : L2.St} {env : Env} (r : Rel K C F σ H env) {p : Addr} (h : H p = none) : p ∉ F := fun q => by
  obtain ⟨u, hu⟩ := r.live p q
  rw [h] at hu; cases hu
def mDisp (c : List D → D) (as : List Arg) : ME := fun env => match runArgs as env with
  | some (rs, env1) => match getAllV env1 rs with
    | some ds => some (c ds, env1)
    | none => none
  | none => none
theorem sim_tup {tr : TA} {as : List Arg} (hl : as.length ≤ 1000) (ha : SimA K tr as) : SimE K (tTupF tr) (mDisp .tup as) := fun C F σ H env d env' Q rl e q => by
  unfold mDisp at e
  split at e
  · rename_i x env1 h1
    split at e
    · rename_i dx hx
      cases e
      refine ha C F σ H env x env' _ rl h1 fun vs H1 r1 e1 p1 => ?_
      have hlen : vs.length ≤ 1000 := by rw [p1.length, runArgs_length h1]; exact hl
      refine ⟨Nat.le_trans hlen (by decide), fun p o hp fz => ?_⟩
      have ex : Ex H1 (upd H1 p (.frz o (.tup vs))) := Ex.new hp
      have pF : p ∉ F := fun h => by
        obtain ⟨o, ho⟩ := r1.live p h
        rw [hp] at ho; cases ho
      exact q _ _ (r1.grow ex) (e1.trans (off_mono ex)) (.tup ⟨o, by rw [off_out pF]; exact upd_same, fz⟩ ((p1.reps r1 hx).mono (off_mono ex)))
    · cases e
  · cases e
theorem simN_lst {tr : TA} {as : List Arg} (hl : as.length ≤ 1000) (ha : SimA K tr as) : SimN K (tLst tr) (mDisp .lst as) := fun C F σ H env d env' Q rl e q => by
  unfold mDisp at e
  split at e
  · rename_i x env1 h1
    split at e
    · rename_i dx hx
      cases e
      refine ha C F σ H env x env' _ rl h1 fun vs H1 r1 e1 p1 => ?_
      have hlen : vs.length ≤ 1000 := by rw [p1.length, runArgs_length h1]; exact hl
      refine ⟨Nat.le_trans hlen (by decide), fun p hp => ?_⟩
      have oc : Ex (off F H1) (off (p :: F) (upd H1 p (.lst vs))) := off_cons hp
      have hp0 : H p = none := by
        cases h0 : H p with
        | none => rfl
        | some o =>
          by_cases pF : p ∈ F
          · obtain ⟨u, hu⟩ := r1.live p pF
            rw [hp] at hu; cases hu
          · have := e1 p o (off_some.mpr ⟨pF, h0⟩)
            rw [off_some, hp] at this
            exact absurd this.2 (by simp)
      exact q p _ hp0 (fun j b e he => r1.noslot hp he) (r1.laid hp) (e1.trans oc) ⟨vs, upd_same, (p1.reps r1 hx).mono oc⟩
    · cases e
  · cases e
theorem filter_ne {F : List Addr} {p : Addr} (h : p ∉ F) : (p :: F).filter (· ≠ p) = F := by
  rw [List.filter_cons_of_neg (by simp)]
  exact List.filter_eq_self.mpr fun q hq => decide_eq_true (fun e => h (e ▸ hq))
theorem simN_e (h : SimN K te m) : SimE K te m := fun C F σ H env d env' Q rl e q => by
  refine h C F σ H env d env' Q rl e fun p H' hp hs r' e' o' => ?_
  have nF := rl.notin hp
  have r2 := r'.drop (rl.h0 hp) (rl.nopin hp) hs
  rw [filter_ne nF] at r2
  exact q _ _ r2 (e'.trans (off_sub fun x hx => List.mem_cons_of_mem _ hx)) (o'.rep (fun x hx => List.mem_cons_of_mem _ hx) nF)
/-! ### tests -/
theorem sim_if (ht : SimT K t mt) (ha : SimE K ta ma) (hb : SimE K tb mb) : SimE K (tIf t ta tb) (mIf mt ma mb) := fun C F σ H env d env' Q rl e q => by
  unfold mIf at e
  split at e
  · rename_i env1 h1
    refine ht C F σ H env true env1 _ rl h1 fun H1 r1 e1 => ?_
    rw [if_pos rfl]
    exact ha C F σ H1 env1 d env' Q r1 e fun v H2 r2 e2 p2 => q v H2 r2 (e1.trans e2) p2
  · rename_i env1 h1
    refine ht C F σ H env false env1 _ rl h1 fun H1 r1 e1 => ?_
    rw [if_neg Bool.false_ne_true]
    exact hb C F σ H1 env1 d env' Q r1 e fun v H2 r2 e2 p2 => q v H2 r2 (e1.trans e2) p2
  · cases e
theorem Rep.bl_inv {H : Hp} {v : V} {b : Bool} (h : Rep K H v (.bl b)) : v = .bl b := by cases h; rfl
theorem Rep.int_inv {H : Hp} {v : V} {i : Int} (h : Rep K H v (.int i)) : v = .int i := by cases h; rfl
theorem Rep.str_inv {H : Hp} {v : V} {x : Str} (h : Rep K H v (.str x)) : v = .str x := by cases h; rfl
theorem Rep.non_inv {H : Hp} {v : V} (h : Rep K H v .non) : v = .non := by cases h; rfl
theorem simT_test (h : SimE K te m) : SimT K (tTest te) (mTest m) := fun C F σ H env b env' Q rl e q => by
  unfold mTest at e
  split at e
  · rename_i b' env1 h1
    cases e
    refine h C F σ H env _ env' _ rl h1 fun v H1 r1 e1 p1 => ⟨b, p1.bl_inv, q H1 r1 e1⟩
  · cases e
theorem simT_B (h : SimE K te m) : SimT K (tB te) (mTest m) := fun C F σ H env b env' Q rl e q => by
  unfold mTest at e
  split at e
  · rename_i b' env1 h1
    cases e
    refine h C F σ H env _ env' _ rl h1 fun v H1 r1 e1 p1 => ⟨b, p1.bl_inv, q H1 r1 e1⟩
  · cases e
theorem simT_and (ha : SimT K t mt) (hb : SimT K u mu) : SimT K (tAnd t u) (mAnd mt mu) := fun C F σ H env b env' Q rl e q => by
  unfold mAnd at e
  split at e
  · rename_i env1 h1
    refine ha C F σ H env true env1 _ rl h1 fun H1 r1 e1 => ?_
    rw [if_pos rfl]
    exact hb C F σ H1 env1 b env' Q r1 e fun H2 r2 e2 => q H2 r2 (e1.trans e2)
  · rename_i env1 h1
    cases e
    refine ha C F σ H env false env' _ rl h1 fun H1 r1 e1 => ?_
    rw [if_neg Bool.false_ne_true]
    exact q H1 r1 e1
  · cases e
theorem simT_or (ha : SimT K t mt) (hb : SimT K u mu) : SimT K (tOr t u) (mOr mt mu) := fun C F σ H env b env' Q rl e q => by
  unfold mOr at e
  split at e
  · rename_i env1 h1
    cases e
    refine ha C F σ H env true env' _ rl h1 fun H1 r1 e1 => ?_
    rw [if_pos rfl]
    exact q H1 r1 e1
  · rename_i env1 h1
    refine ha C F σ H env false env1 _ rl h1 fun H1 r1 e1 => ?_
    rw [if_neg Bool.false_ne_true]
    exact hb C F σ H1 env1 b env' Q r1 e fun H2 r2 e2 => q H2 r2 (e1.trans e2)
  · cases e
theorem simT_not (ha : SimT K t mt) : SimT K (tNot t) (mNot mt) := fun C F σ H env b env' Q rl e q => by
  unfold mNot at e
  split at e
  · rename_i b' env1 h1
    cases e
    exact ha C F σ H env b' env' _ rl h1 fun H1 r1 e1 => q H1 r1 e1
  · cases e
theorem sim_andV (ha : SimE K ta ma) (hb : SimE K tb mb) : SimE K (tAndV ta tb) (mIf (mTest ma) mb (mC (.bl false))) := fun C F σ H env d env' Q rl e q => by
  unfold mIf at e
  split at e
  · rename_i env1 h1
    unfold mTest at h1
    split at h1
    · rename_i b' env2 h2
      cases h1
      refine ha C F σ H env _ env1 _ rl h2 fun v H1 r1 e1 p1 => ⟨true, p1.bl_inv, ?_⟩
      rw [if_pos rfl]
      exact hb C F σ H1 env1 d env' Q r1 e fun v H2 r2 e2 p2 => q v H2 r2 (e1.trans e2) p2
    · cases h1
  · rename_i env1 h1
    unfold mTest at h1
    split at h1
    · rename_i b' env2 h2
      cases h1
      refine ha C F σ H env _ env1 _ rl h2 fun v H1 r1 e1 p1 => ⟨false, p1.bl_inv, ?_⟩
      rw [if_neg Bool.false_ne_true]
      cases e
      exact q _ H1 r1 e1 (.bl false)
    · cases h1
  · cases e
theorem sim_orV (ha : SimE K ta ma) (hb : SimE K tb mb) : SimE K (tOrV ta tb) (mIf (mTest ma) (mC (.bl true)) mb) := fun C F σ H env d env' Q rl e q => by
  unfold mIf at e
  split at e
  · rename_i env1 h1
    unfold mTest at h1
    split at h1
    · rename_i b' env2 h2
      cases h1
      refine ha C F σ H env _ env1 _ rl h2 fun v H1 r1 e1 p1 => ⟨true, p1.bl_inv, ?_⟩
      rw [if_pos rfl]
      cases e
      exact q _ H1 r1 e1 (.bl true)
    · cases h1
  · rename_i env1 h1
    unfold mTest at h1
    split at h1
    · rename_i b' env2 h2
      cases h1
      refine ha C F σ H env _ env1 _ rl h2 fun v H1 r1 e1 p1 => ⟨false, p1.bl_inv, ?_⟩
      rw [if_neg Bool.false_ne_true]
      exact hb C F σ H1 env1 d env' Q r1 e fun v H2 r2 e2 p2 => q v H2 r2 (e1.trans e2) p2
    · cases h1
  · cases e
theorem sim_notV (ha : SimE K ta ma) : SimE K (tNotV ta) (mBool (mNot (mTest ma))) := fun C F σ H env d env' Q rl e q => by
  unfold mBool mNot mTest at e
  split at e
  · rename_i b env1 h1
    split at h1
    · rename_i b' env2 h2
      split at h2
      · rename_i b3 env3 h3
        cases h2; cases h1; cases e
        exact ha C F σ H env _ env' _ rl h3 fun v H1 r1 e1 p1 => ⟨_, p1.bl_inv, q _ H1 r1 e1 (.bl _)⟩
      · cases h2
    · cases h1
  · cases e
end
end Mir
/-! Sim: targets, statements, loops, comprehensions. -/
namespace Mir
open PySem L2
inductive Fl where
  | nx | rt (d : D) | bk | ct | ro (d : D)
abbrev MS := Env → Option (Fl × Env)
def Fl.ends (K : Fg) (C : Cfg) (F : List Addr) (D : Ends) (σ : L2.St) (H : Hp) : Fl → Prop
  | .nx => D.nx σ H
  | .bk => D.bk σ H
  | .ct => D.ct σ H
  | .rt d => ∀ v, Rep K (off F H) v d → D.rt v H
  | .ro d => ∀ p, p ∈ F → C.H0 p = none → OwnAt K F H p d → D.rt (.ref p) H
def SimS (K : Fg) (ts : TS) (m : MS) : Prop := ∀ (C : Cfg) (F : List Addr) (σ : L2.St) (H : Hp) (env : Env) (fl : Fl) (env' : Env) (D : Ends), Rel K C F σ H env → m env = some (fl, env') →
  (∀ F' σ' H', Rel K C F' σ' H' env' → Ex (off F H) (off F' H') → fl.ends K C F' D σ' H') → ts D σ H
/-- a target: the slots bs alone are set -/
abbrev MG := D → Env → Option Env
def SimG (K : Fg) (bs : List Nat) (g : TG) (m : MG) : Prop := ∀ (C : Cfg) (F : List Addr) (σ : L2.St) (H : Hp) (env : Env) (v : V) (d : D) (env' : Env) (Q : L2.St → Hp → Prop), Rel K C F σ H env → Rep K (off F H) v d → m d env = some env' →
  (∀ σ', Rel K C F σ' H env' → σ'.length = σ.length → (∀ i, i ∉ bs → σ'[i]? = σ[i]?) → Q σ' H) → g v σ H Q
def SimGs (K : Fg) (bs : List Nat) (g : TGs) (m : List D → Env → Option Env) : Prop := ∀ (C : Cfg) (F : List Addr) (σ : L2.St) (H : Hp) (env : Env) (vs : List V) (ds : List D) (env' : Env) (Q : L2.St → Hp → Prop), Rel K C F σ H env → Reps K (off F H) vs ds → m ds env = some env' →
  (∀ σ', Rel K C F σ' H env' → σ'.length = σ.length → (∀ i, i ∉ bs → σ'[i]? = σ[i]?) → Q σ' H) → g vs σ H Q
def gN (i : Nat) : MG := fun d env => match env[i]? with
  | some (.own true _) => none
  | _ => some (env.set i (.val d))
def gNil' : List D → Env → Option Env
  | [], env => some env
  | _, _ => none
def gCons' (g : MG) (gs : List D → Env → Option Env) : List D → Env → Option Env
  | d :: ds, env => match g d env with | some env1 => gs ds env1 | none => none
  | [], _ => none
def gT (n : Nat) (gs : List D → Env → Option Env) : MG := fun d env => match d with
  | .tup ds => if ds.length = n then gs ds env else none
  | _ => none
section
variable {K : Fg}
theorem simG_n {i : Nat} : SimG K [i] (gName i) (gN i) := fun C F σ H env v d env' Q r hv e q => by
  unfold gN at e
  have fin : (∀ d', env[i]? ≠ some (.own true d')) → some (env.set i (.val d)) = some env' → Q (σ.set i (some v)) H := fun hn e => by
    cases e
    refine q _ (r.set hn hv) (List.length_set ..) fun j hj => List.getElem?_set_ne (fun z => hj (by simp [z]))
  split at e
  · cases e
  · rename_i hn
    exact fin (fun d' z => hn d' z) e
theorem simGs_nil : SimGs K [] gNil gNil' := fun C F σ H env vs ds env' Q r hv e q => by
  cases hv with
  | nil => cases e; exact ⟨rfl, q σ r rfl fun _ _ => rfl⟩
  | cons _ _ => cases e
theorem simGs_cons {bs cs : List Nat} {g : TG} {m : MG} {gs : TGs} {ms : List D → Env → Option Env} (h1 : SimG K bs g m) (h2 : SimGs K cs gs ms) : SimGs K (bs ++ cs) (gCons g gs) (gCons' m ms) := fun C F σ H env vs ds env' Q r hv e q => by
  cases hv with
  | nil => cases e
  | cons hd tl =>
    unfold gCons' at e
    dsimp only at e
    split at e
    · rename_i env1 h
      refine ⟨_, _, rfl, h1 C F σ H env _ _ env1 _ r hd h fun σ1 r1 l1 k1 => ?_⟩
      refine h2 C F σ1 H env1 _ _ env' _ r1 tl e fun σ2 r2 l2 k2 => ?_
      exact q σ2 r2 (l2.trans l1) fun i hi => (k2 i fun z => hi (List.mem_append_right _ z)).trans (k1 i fun z => hi (List.mem_append_left _ z))
    · cases e
theorem simG_t {bs : List Nat} {n : Nat} {gs : TGs} {ms : List D → Env → Option Env} (h : SimGs K bs gs ms) : SimG K bs (gTup K n gs) (gT n ms) := fun C F σ H env v d env' Q r hv e q => by
  unfold gT at e
  split at e
  · rename_i ds
    split at e
    · rename_i hl
      cases hv with
      | tup hs hr =>
        exact ⟨_, _, rfl, ex_t off_ex hs.sq, hr.length.trans hl, h C F σ H env _ ds env' Q r hr e q⟩
    · cases e
  · cases e
end
/-! ### statements -/
def mPass : MS := fun env => some (.nx, env)
def mBreak : MS := fun env => some (.bk, env)
def mCont : MS := fun env => some (.ct, env)
def mSeq (a b : MS) : MS := fun env => match a env with
  | some (.nx, env1) => b env1
  | some (fl, env1) => some (fl, env1)
  | none => none
def mAsg (m : ME) (g : MG) : MS := fun env => match m env with
  | some (d, env1) => match g d env1 with
    | some env2 => some (.nx, env2)
    | none => none
  | none => none
/-- x = a new object of one's own -/
def mAsgO (m : ME) (i : Nat) : MS := fun env => match m env with
  | some (d, env1) => match env1[i]? with
    | some (.own true _) => none
    | _ => some (.nx, env1.set i (.own false d))
  | none => none
def mRet (m : ME) : MS := fun env => match m env with
  | some (d, env1) => some (.rt d, env1)
  | none => none
def mRetN : MS := fun env => some (.rt .non, env)
/-- a new object given back -/
def mRetO (m : ME) : MS := fun env => match m env with
  | some (d, env1) => some (.ro d, env1)
  | none => none
/-- one's own object of a slot given back -/
def mRetS (i : Nat) : MS := fun env => match env[i]? with
  | some (.own false d) => some (.ro d, env)
  | _ => none
def mExpr (m : ME) : MS := fun env => match m env with
  | some (_, env1) => some (.nx, env1)
  | none => none
def mIfS (t : MT) (a b : MS) : MS := fun env => match t env with
  | some (true, env1) => a env1
  | some (false, env1) => b env1
  | none => none
def mNever : MS := fun _ => none
/-- a slot's object is given up ahead of a statement -/
def mFrz (i : Nat) (m : MS) : MS := fun env => match env[i]? with
  | some (.own false d) => m (env.set i (.val d))
  | _ => m env
def mFrzE (i : Nat) (m : ME) : ME := fun env => match env[i]? with
  | some (.own false d) => m (env.set i (.val d))
  | _ => m env
section
variable {K : Fg} {ta tb te : TE} {m ma mb : ME} {t u : TS} {a b : MS} {tt : TT} {mt : MT}
theorem simS_next : SimS K tNext mPass := fun C F σ H env fl env' D r e q => by cases e; exact q F σ H r (Ex.refl _)
theorem simS_break : SimS K tBreak mBreak := fun C F σ H env fl env' D r e q => by cases e; exact q F σ H r (Ex.refl _)
theorem simS_cont : SimS K tCont mCont := fun C F σ H env fl env' D r e q => by cases e; exact q F σ H r (Ex.refl _)
theorem simS_never : SimS K tNever mNever := fun C F σ H env fl env' D r e q => by cases e
theorem simS_seq (h1 : SimS K t a) (h2 : SimS K u b) : SimS K (tSeq t u) (mSeq a b) := fun C F σ H env fl env' D r e q => by
  unfold mSeq at e
  split at e
  · rename_i env1 he
    refine h1 C F σ H env .nx env1 _ r he fun F1 σ1 H1 r1 e1 => ?_
    exact h2 C F1 σ1 H1 env1 fl env' D r1 e fun F2 σ2 H2 r2 e2 => q F2 σ2 H2 r2 (e1.trans e2)
  · rename_i fl1 env1 hne he
    cases e
    refine h1 C F σ H env fl env' _ r he fun F1 σ1 H1 r1 e1 => ?_
    have := q F1 σ1 H1 r1 e1
    cases fl with
    | nx => exact absurd rfl hne
    | rt d => exact this
    | bk => exact this
    | ct => exact this
    | ro d => exact this
  · cases e
theorem simS_asg {bs : List Nat} {g : TG} {mg : MG} (h : SimE K te m) (hg : SimG K bs g mg) : SimS K (tAsg te g) (mAsg m mg) := fun C F σ H env fl env' D r e q => by
  unfold mAsg at e
  split at e
  · rename_i d env1 h1
    split at e
    · rename_i env2 h2
      cases e
      refine h C F σ H env d env1 _ r h1 fun v H1 r1 e1 p1 => ?_
      exact hg C F σ H1 env1 v d env' _ r1 p1 h2 fun σ2 r2 _ _ => q F σ2 H1 r2 e1
    · cases e
  · cases e
theorem simS_asgO {i : Nat} (h : SimN K te m) : SimS K (tAsg te (gName i)) (mAsgO m i) := fun C F σ H env fl env' D r e q => by
  unfold mAsgO at e
  split at e
  · rename_i d env1 h1
    have fin : (∀ d', env1[i]? ≠ some (.own true d')) → some (Fl.nx, env1.set i (.own false d)) = some (fl, env') → tAsg te (gName i) D σ H := fun hn e => by
      cases e
      refine h C F σ H env d env1 _ r h1 fun p H1 hp hs r1 e1 o1 => ?_
      exact q (p :: F) _ H1 (r1.setOwn hn (List.mem_cons_self ..) (r.h0 hp) (r.nopin hp) (fun j b e he => hs j b e he) o1) e1
    split at e
    · cases e
    · rename_i hn
      exact fin (fun d' z => hn d' z) e
  · cases e
theorem simS_ret (h : SimE K te m) : SimS K (tRet te) (mRet m) := fun C F σ H env fl env' D r e q => by
  unfold mRet at e
  split at e
  · rename_i d env1 h1
    cases e
    exact h C F σ H env d env' _ r h1 fun v H1 r1 e1 p1 => q F σ H1 r1 e1 v p1
  · cases e
theorem simS_retO (h : SimN K te m) : SimS K (tRet te) (mRetO m) := fun C F σ H env fl env' D r e q => by
  unfold mRetO at e
  split at e
  · rename_i d env1 h1
    cases e
    exact h C F σ H env d env' _ r h1 fun p H1 hp hs r1 e1 o1 => q (p :: F) σ H1 r1 e1 p (List.mem_cons_self ..) (r.h0 hp) o1
  · cases e
theorem simS_retS {i : Nat} : SimS K (tRet (tVar i)) (mRetS i) := fun C F σ H env fl env' D r e q => by
  unfold mRetS at e
  split at e
  · rename_i d hi
    cases e
    obtain ⟨p, s1, pF, oa, _, h0⟩ := r.owns i false d hi
    exact ⟨_, s1, q F σ H r (Ex.refl _) p pF (h0 rfl) oa⟩
  · cases e
theorem simS_retN : SimS K tRetN mRetN := fun C F σ H env fl env' D r e q => by cases e; exact q F σ H r (Ex.refl _) _ .non
theorem simS_expr (h : SimE K te m) : SimS K (tDrop te) (mExpr m) := fun C F σ H env fl env' D r e q => by
  unfold mExpr at e
  split at e
  · rename_i d env1 h1
    cases e
    exact h C F σ H env d env' _ r h1 fun v H1 r1 e1 _ => q F σ H1 r1 e1
  · cases e
theorem simS_if (ht : SimT K tt mt) (h1 : SimS K t a) (h2 : SimS K u b) : SimS K (tIfS tt t u) (mIfS mt a b) := fun C F σ H env fl env' D r e q => by
  unfold mIfS at e
  split at e
  · rename_i env1 he
    refine ht C F σ H env true env1 _ r he fun H1 r1 e1 => ?_
    rw [if_pos rfl]
    exact h1 C F σ H1 env1 fl env' D r1 e fun F2 σ2 H2 r2 e2 => q F2 σ2 H2 r2 (e1.trans e2)
  · rename_i env1 he
    refine ht C F σ H env false env1 _ r he fun H1 r1 e1 => ?_
    rw [if_neg Bool.false_ne_true]
    exact h2 C F σ H1 env1 fl env' D r1 e fun F2 σ2 H2 r2 e2 => q F2 σ2 H2 r2 (e1.trans e2)
  · cases e
theorem simS_frz {i : Nat} (h : SimS K t a) : SimS K t (mFrz i a) := fun C F σ H env fl env' D r e q => by
  unfold mFrz at e
  split at e
  · rename_i d hi
    obtain ⟨F', r1, e1⟩ := r.freeze hi
    exact h C F' σ H _ fl env' D r1 e fun F2 σ2 H2 r2 e2 => q F2 σ2 H2 r2 (e1.trans e2)
  · exact h C F σ H env fl env' D r e q
end
/-! ### what is walked -/
/-- the i-th item is represented by what is yielded at turn i, whatever was made one's own meanwhile -/
def Yields (K : Fg) (F : List Addr) (H : Hp) (ds : List D) (Y : Nat → Hp → V → Hp → Prop) : Prop :=
  ∀ i H1 x H2 F1 d, ds[i]? = some d → (∀ p ∈ F1, ∃ o, H1 p = some o) → Ex (off F H) (off F1 H1) → Y i H1 x H2 → Ex H1 H2 ∧ Rep K (off F1 H2) x d
def SimI (K : Fg) (wi : TI) (mi : Env → Option (List D × Env)) : Prop := ∀ (C : Cfg) (F : List Addr) (σ : L2.St) (H : Hp) (env : Env) (ds : List D) (env' : Env) (R : It → Hp → Prop), Rel K C F σ H env → mi env = some (ds, env') →
  (∀ J G Y H', L2.Walk J ds.length G Y → (∀ F1 H1, Ex (off F H') (off F1 H1) → G H1) → Yields K F H' ds Y → Rel K C F σ H' env' → Ex (off F H) (off F H') → R J H') → wi σ H R
def mForL (g : MG) (b : MS) : List D → MS
  | [], env => some (.nx, env)
  | d :: ds, env => match g d env with
    | some env1 => match b env1 with
      | some (.nx, env2) => mForL g b ds env2
      | some (.ct, env2) => mForL g b ds env2
      | some (.bk, env2) => some (.nx, env2)
      | some (.rt r, env2) => some (.rt r, env2)
      | some (.ro _, _) => none
      | none => none
    | none => none
def mFor (mi : Env → Option (List D × Env)) (g : MG) (b : MS) : MS := fun env => match mi env with
  | some (ds, env1) => mForL g b ds env1
  | none => none
def mWhile (t : MT) (b : MS) : Nat → MS
  | 0, _ => none
  | n + 1, env => match t env with
    | some (true, env1) => match b env1 with
      | some (.nx, env2) => mWhile t b n env2
      | some (.ct, env2) => mWhile t b n env2
      | some (.bk, env2) => some (.nx, env2)
      | some (.rt r, env2) => some (.rt r, env2)
      | some (.ro _, _) => none
      | none => none
    | some (false, env1) => some (.nx, env1)
    | none => none
section
variable {K : Fg} {tb : TS} {b : MS} {tt : TT} {mt : MT}
theorem simS_for {wi : TI} {mi : Env → Option (List D × Env)} {bs : List Nat} {g : TG} {mg : MG} (hi : SimI K wi mi) (hg : SimG K bs g mg) (hb : SimS K tb b) : SimS K (tFor wi g tb) (mFor mi mg b) := fun C F σ H env fl env' D r e q => by
  unfold mFor at e
  split at e
  · rename_i ds env1 h1
    refine hi C F σ H env ds env1 _ r h1 fun J G Y H1 w stab yl r1 e1 => ?_
    refine L2.for_it w (g := g) (tb := tb) (D := D) (σ := σ) (H := H1) (fun i σ' H' => ∃ F' env2, Rel K C F' σ' H' env2 ∧ Ex (off F H1) (off F' H') ∧ mForL mg b (ds.drop i) env2 = some (fl, env')) ⟨F, env1, r1, Ex.refl _, e⟩ (fun i σ' H' _ ⟨F', _, _, ex, _⟩ => stab F' H' ex) (fun i x σ' H2 H3 hlt ⟨F', env2, r2, ex2, e2⟩ y => ?_) (fun σ' H' ⟨F', env2, r2, ex2, e2⟩ => ?_)
    · have hd : ds[i]? = some ds[i] := List.getElem?_eq_getElem hlt
      have hdr : ds.drop i = ds[i] :: ds.drop (i + 1) := List.drop_eq_getElem_cons hlt
      rw [hdr] at e2
      unfold mForL at e2
      obtain ⟨ex3, p3⟩ := yl i H2 x H3 F' ds[i] hd r2.live ex2 y
      split at e2
      · rename_i env3 h3
        refine hg C F' σ' H3 env2 x ds[i] env3 _ (r2.grow ex3) p3 h3 fun σ4 r4 _ _ => ?_
        have ex4 : Ex (off F H1) (off F' H3) := ex2.trans (off_mono ex3)
        split at e2
        · rename_i env4 h4
          exact hb C F' σ4 H3 env3 .nx env4 _ r4 h4 fun F5 σ5 H5 r5 ex5 => ⟨F5, env4, r5, ex4.trans ex5, e2⟩
        · rename_i env4 h4
          exact hb C F' σ4 H3 env3 .ct env4 _ r4 h4 fun F5 σ5 H5 r5 ex5 => ⟨F5, env4, r5, ex4.trans ex5, e2⟩
        · rename_i env4 h4
          cases e2
          exact hb C F' σ4 H3 env3 .bk env' _ r4 h4 fun F5 σ5 H5 r5 ex5 => q F5 σ5 H5 r5 ((e1.trans ex4).trans ex5)
        · rename_i d4 env4 h4
          cases e2
          exact hb C F' σ4 H3 env3 (.rt d4) env' _ r4 h4 fun F5 σ5 H5 r5 ex5 => q F5 σ5 H5 r5 ((e1.trans ex4).trans ex5)
        · cases e2
        · cases e2
      · cases e2
    · rw [List.drop_length] at e2
      unfold mForL at e2
      cases e2
      exact q F' σ' H' r2 (e1.trans ex2)
  · cases e
theorem simS_while {n : Nat} (ht : SimT K tt mt) (hb : SimS K tb b) : SimS K (tWhile tt tb) (mWhile mt b n) := fun C F σ H env fl env' D r e q => by
  refine ⟨fun m σ' H' => ∃ F' env2, Rel K C F' σ' H' env2 ∧ Ex (off F H) (off F' H') ∧ mWhile mt b m env2 = some (fl, env'), ⟨n, F, env, r, Ex.refl _, e⟩, fun m σ1 H1 ⟨F1, env1, r1, ex1, e1⟩ => ?_⟩
  cases m with
  | zero => cases e1
  | succ m =>
    unfold mWhile at e1
    split at e1
    · rename_i env2 h2
      refine ht C F1 σ1 H1 env1 true env2 _ r1 h2 fun H2 r2 ex2 => ?_
      rw [if_pos rfl]
      refine ⟨fun σ' H' => ∃ F' env3, Rel K C F' σ' H' env3 ∧ Ex (off F H) (off F' H') ∧ mWhile mt b m env3 = some (fl, env'), fun σ' H' h => ⟨m, Nat.lt_succ_self m, h⟩, ?_⟩
      have ex12 := ex1.trans ex2
      split at e1
      · rename_i env4 h4
        exact hb C F1 σ1 H2 env2 .nx env4 _ r2 h4 fun F5 σ5 H5 r5 ex5 => ⟨F5, env4, r5, ex12.trans ex5, e1⟩
      · rename_i env4 h4
        exact hb C F1 σ1 H2 env2 .ct env4 _ r2 h4 fun F5 σ5 H5 r5 ex5 => ⟨F5, env4, r5, ex12.trans ex5, e1⟩
      · rename_i env4 h4
        cases e1
        exact hb C F1 σ1 H2 env2 .bk env' _ r2 h4 fun F5 σ5 H5 r5 ex5 => q F5 σ5 H5 r5 (ex12.trans ex5)
      · rename_i d4 env4 h4
        cases e1
        exact hb C F1 σ1 H2 env2 (.rt d4) env' _ r2 h4 fun F5 σ5 H5 r5 ex5 => q F5 σ5 H5 r5 (ex12.trans ex5)
      · cases e1
      · cases e1
    · rename_i env2 h2
      cases e1
      refine ht C F1 σ1 H1 env1 false env' _ r1 h2 fun H2 r2 ex2 => ?_
      rw [if_neg Bool.false_ne_true]
      exact q F1 σ1 H2 r2 (ex1.trans ex2)
    · cases e1
end
/-! ### comprehensions -/
/-- the comprehension's own slots: no objects of one's own stand there -/
def plainAt (env : Env) (vs : List Nat) : Bool := vs.all fun i => match env[i]? with | some (.own _ _) => false | _ => true
def wipeE (env : Env) : List Nat → Env
  | [] => env
  | v :: vs => (wipeE env vs).set v .un
/-- what stood there ahead -/
def backE (env0 env : Env) : List Nat → Env
  | [] => env
  | v :: vs => match env0[v]? with
    | some s => (backE env0 env vs).set v s
    | none => backE env0 env vs
def mLcL (g : MG) (t : MT) (elt : ME) (vs : List Nat) : List D → List D → Env → Option (List D × Env)
  | [], acc, env => some (acc, env)
  | d :: ds, acc, env => match g d env with
    | some env1 => match t env1 with
      | some (true, env2) => match elt env2 with
        | some (y, env3) => mLcL g t elt vs ds (acc ++ [y]) (wipeE env3 vs)
        | none => none
      | some (false, env2) => mLcL g t elt vs ds acc (wipeE env2 vs)
      | none => none
    | none => none
def mLc (mi : Env → Option (List D × Env)) (g : MG) (t : MT) (elt : ME) (vs : List Nat) : ME := fun env => match mi env with
  | some (ds, env1) => if plainAt env1 vs = true ∧ ds.length ≤ 100000 then
      match mLcL g t elt vs ds [] (wipeE env1 vs) with
      | some (acc, env2) => some (.lst acc, backE env1 env2 vs)
      | none => none
    else none
  | none => none
end Mir
/-! Sim: list comprehensions. -/
namespace Mir
open PySem L2
theorem wipeE_in {env : Env} : ∀ {vs : List Nat} {j : Nat}, j ∈ vs → j < env.length → (wipeE env vs)[j]? = some .un
  | v :: vs, j, h, hl => by
    unfold wipeE
    by_cases e : j = v
    · subst e; rw [List.getElem?_set_self]
      have : (wipeE env vs).length = env.length := by
        clear h
        induction vs with
        | nil => rfl
        | cons a r ih => unfold wipeE; rw [List.length_set]; exact ih
      omega
    · rw [List.getElem?_set_ne (fun q => e q.symm)]
      rcases List.mem_cons.mp h with h | h
      · exact absurd h e
      · exact wipeE_in h hl
theorem wipeE_out {env : Env} : ∀ {vs : List Nat} {j : Nat}, j ∉ vs → (wipeE env vs)[j]? = env[j]?
  | [], _, _ => rfl
  | v :: vs, j, h => by
    unfold wipeE
    rw [List.getElem?_set_ne (fun q => h (by simp [q]))]
    exact wipeE_out fun z => h (List.mem_cons_of_mem _ z)
theorem wipeE_length {env : Env} : ∀ {vs : List Nat}, (wipeE env vs).length = env.length
  | [] => rfl
  | v :: vs => by unfold wipeE; rw [List.length_set]; exact wipeE_length
theorem wipe_in {σ : L2.St} : ∀ {vs : List Nat} {j : Nat}, j ∈ vs → j < σ.length → (L2.wipe σ vs)[j]? = some none
  | v :: vs, j, h, hl => by
    unfold L2.wipe
    by_cases e : j = v
    · subst e; rw [List.getElem?_set_self (by rw [L2.wipe_length]; exact hl)]
    · rw [List.getElem?_set_ne (fun q => e q.symm)]
      rcases List.mem_cons.mp h with h | h
      · exact absurd h e
      · exact wipe_in h hl
theorem wipe_out' {σ : L2.St} : ∀ {vs : List Nat} {j : Nat}, j ∉ vs → (L2.wipe σ vs)[j]? = σ[j]?
  | [], _, _ => rfl
  | v :: vs, j, h => by
    unfold L2.wipe
    rw [List.getElem?_set_ne (fun q => h (by simp [q]))]
    exact wipe_out' fun z => h (List.mem_cons_of_mem _ z)
theorem wipe_same {σ σ' : L2.St} {vs : List Nat} (hl : σ'.length = σ.length) (h : ∀ j, j ∉ vs → σ'[j]? = (L2.wipe σ vs)[j]?) : L2.wipe σ' vs = L2.wipe σ vs := by
  refine List.ext_getElem? fun j => ?_
  by_cases hj : j ∈ vs
  · by_cases hlt : j < σ.length
    · rw [wipe_in hj (by omega), wipe_in hj hlt]
    · rw [List.getElem?_eq_none (by rw [L2.wipe_length]; omega), List.getElem?_eq_none (by rw [L2.wipe_length]; omega)]
  · rw [wipe_out' hj, h j hj]
theorem backE_length {env0 env : Env} : ∀ {vs : List Nat}, (backE env0 env vs).length = env.length
  | [] => rfl
  | v :: vs => by
    unfold backE
    split
    · rw [List.length_set]; exact backE_length
    · exact backE_length
theorem backE_out {env0 env : Env} : ∀ {vs : List Nat} {j : Nat}, j ∉ vs → (backE env0 env vs)[j]? = env[j]?
  | [], _, _ => rfl
  | v :: vs, j, h => by
    unfold backE
    have ih : (backE env0 env vs)[j]? = env[j]? := backE_out fun z => h (List.mem_cons_of_mem _ z)
    split
    · rw [List.getElem?_set_ne (fun q => h (by simp [q]))]; exact ih
    · exact ih
theorem backE_in {env0 env : Env} (hl : env.length = env0.length) : ∀ {vs : List Nat} {j : Nat}, j ∈ vs → (backE env0 env vs)[j]? = env0[j]?
  | v :: vs, j, h => by
    unfold backE
    by_cases e : j = v
    · subst e
      split
      · rename_i s hs
        have : j < env0.length := (List.getElem?_eq_some_iff.mp hs).1
        rw [List.getElem?_set_self (by rw [backE_length]; omega), hs]
      · rename_i hs
        have : env0.length ≤ j := List.getElem?_eq_none_iff.mp hs
        rw [hs]
        exact List.getElem?_eq_none (by rw [backE_length]; omega)
    · rcases List.mem_cons.mp h with h | h
      · exact absurd h e
      · have ih := backE_in hl h
        split
        · rw [List.getElem?_set_ne (fun q => e q.symm)]; exact ih
        · exact ih
section
variable {K : Fg} {C : Cfg} {F : List Addr} {σ : L2.St} {H H' : Hp} {env env' : Env}
theorem Rel.wiped (r : Rel K C F σ H env) : ∀ {vs : List Nat}, (∀ i ∈ vs, ∀ p, (i, p) ∉ C.pm) → Rel K C F (L2.wipe σ vs) H (wipeE env vs)
  | [], _ => r
  | v :: vs, h => (Rel.wiped r fun i hi => h i (List.mem_cons_of_mem _ hi)).unset (h v (List.mem_cons_self ..))
theorem Rel.nopar (r : Rel K C F σ H env) {vs : List Nat} (h : plainAt env vs = true) : ∀ i ∈ vs, ∀ p, (i, p) ∉ C.pm := fun i hi p hp => by
  obtain ⟨_, d, hd⟩ := r.pars i p hp
  have := List.all_eq_true.mp h i hi
  rw [hd] at this; cases this
theorem Rel.back (r : Rel K C F σ H env) (r' : Rel K C F (L2.wipe σ vs) H' env') (h : plainAt env vs = true) (e : Ex (off F H) (off F H')) : Rel K C F σ H' (backE env env' vs) := by
  have hl : env'.length = env.length := by rw [← r'.len, ← r.len, L2.wipe_length]
  have pl : ∀ j ∈ vs, ∀ b d, env[j]? ≠ some (.own b d) := fun j hj b d z => by
    have := List.all_eq_true.mp h j hj
    rw [z] at this; cases this
  have gs : ∀ (j : Nat) s, (backE env env' vs)[j]? = some s → (j ∈ vs ∧ env[j]? = some s) ∨ (j ∉ vs ∧ env'[j]? = some s) := fun j s z => by
    by_cases hj : j ∈ vs
    · rw [backE_in hl hj] at z; exact .inl ⟨hj, z⟩
    · rw [backE_out hj] at z; exact .inr ⟨hj, z⟩
  refine ⟨by rw [backE_length, hl]; exact r.len, fun j d z => ?_, fun j b d z => ?_, fun j k b c d e p ne h1 h2 s1 s2 => ?_, fun j p z => ?_, r'.sub, r'.old, r'.live, r'.base, r'.pmF, fun a o z => ?_⟩
  · rcases gs j _ z with ⟨_, z⟩ | ⟨hj, z⟩
    · obtain ⟨v, a, b⟩ := r.vals j d z
      exact ⟨v, a, b.mono e⟩
    · obtain ⟨v, a, b⟩ := r'.vals j d z
      exact ⟨v, (wipe_out' hj).symm.trans a, b⟩
  · rcases gs j _ z with ⟨hj, z⟩ | ⟨hj, z⟩
    · exact absurd z (pl j hj b d)
    · obtain ⟨p, a, q⟩ := r'.owns j b d z
      exact ⟨p, (wipe_out' hj).symm.trans a, q⟩
  · rcases gs j _ h1 with ⟨hj, z⟩ | ⟨hj, z⟩
    · exact absurd z (pl j hj b d)
    · rcases gs k _ h2 with ⟨hk, z2⟩ | ⟨hk, z2⟩
      · exact absurd z2 (pl k hk c e)
      · exact r'.apart j k b c d e p ne z z2 ((wipe_out' hj).trans s1) ((wipe_out' hk).trans s2)
  · obtain ⟨s1, d, hd⟩ := r'.pars j p z
    have hj : j ∉ vs := fun hj => r.nopar h j hj p z
    exact ⟨(wipe_out' hj).symm.trans s1, d, (backE_out hj).trans hd⟩
  · obtain ⟨x, y, w⟩ := r'.pins a o z
    refine ⟨x, y, fun j b d he => ?_⟩
    rcases gs j _ he with ⟨hj, he⟩ | ⟨hj, he⟩
    · exact absurd he (pl j hj b d)
    · rw [← wipe_out' (σ := σ) hj]; exact w j b d he
end
theorem off_cons_back {F : List Addr} {H : Hp} {p : Addr} {o : HO} : Ex (off (p :: F) (upd H p o)) (off F H) := fun a u h => by
  rw [off_some] at h ⊢
  have ne : a ≠ p := fun e => h.1 (by simp [e])
  exact ⟨fun q => h.1 (List.mem_cons_of_mem _ q), (upd_ne ne).symm.trans h.2⟩
/-- an object of F that is in no slot changes -/
theorem Rel.updF {K : Fg} {C : Cfg} {F : List Addr} {σ : L2.St} {H : Hp} {env : Env} (r : Rel K C F σ H env) {p : Addr} {o : HO} (hF : p ∈ F) (h0 : C.H0 p = none) (hp : C.pin p = none) (hs : ∀ (j : Nat) b e, env[j]? = some (.own b e) → σ[j]? ≠ some (some (.ref p))) : Rel K C F σ (upd H p o) env := by
  have eo : off F (upd H p o) = off F H := off_upd hF
  refine ⟨r.len, fun j d z => ?_, fun j b d z => ?_, r.apart, r.pars, r.sub, fun a u h q => ?_, fun q h => ?_, r.base, r.pmF, fun a u h => ?_⟩
  · rw [eo]; exact r.vals j d z
  · obtain ⟨x, a, m, oa, c⟩ := r.owns j b d z
    have ne : x ≠ p := fun e => hs j b d z (e ▸ a)
    exact ⟨x, a, m, oa.to (by rw [eo]; exact Ex.refl _) (upd_ne ne), c⟩
  · have ne : a ≠ p := fun e => by rw [e, h0] at q; cases q
    rw [upd_ne ne]; exact r.old a u h q
  · by_cases z : q = p
    · subst z; exact ⟨o, upd_same⟩
    · rw [upd_ne z]; exact r.live q h
  · obtain ⟨x, y, w⟩ := r.pins a u h
    have ne : a ≠ p := fun e => by rw [e, hp] at h; cases h
    exact ⟨by rw [upd_ne ne]; exact x, y, w⟩
section
variable {K : Fg} {te : TE} {m : ME} {tt : TT} {mt : MT}
theorem simN_lc {wi : TI} {mi : Env → Option (List D × Env)} {bs vs : List Nat} {g : TG} {mg : MG} (hi : SimI K wi mi) (hg : SimG K bs g mg) (hbs : ∀ i ∈ bs, i ∈ vs) (ht : SimT K tt mt) (he : SimE K te m) : SimN K (L2.tLc wi g tt te vs) (mLc mi mg mt m vs) := fun C F σ H env d env' Q r e q => by
  unfold mLc at e
  split at e
  · rename_i ds env1 h1
    split at e
    · rename_i hc
      obtain ⟨hpl, hlen⟩ := hc
      split at e
      · rename_i res env2 h2
        cases e
        refine hi C F σ H env ds env1 _ r h1 fun J G Y H1 w stab yl r1 e1 => ?_
        intro D hD
        have hD0 : H D = none := by
          cases h0 : H D with
          | none => rfl
          | some o =>
            by_cases pF : D ∈ F
            · obtain ⟨u, hu⟩ := r1.live D pF
              rw [hD] at hu; cases hu
            · have := e1 D o (off_some.mpr ⟨pF, h0⟩)
              rw [off_some, hD] at this
              exact absurd this.2 (by simp)
        have nop := r1.nopar hpl
        have rD : Rel K C (D :: F) (L2.wipe σ vs) (upd H1 D (.lst [])) (wipeE env1 vs) := (r1.wiped nop).laid hD
        have exD : Ex (off F H1) (off (D :: F) (upd H1 D (.lst []))) := off_cons hD
        have pD : C.pin D = none := r1.nopin hD
        have zD : C.H0 D = none := r1.h0 hD
        refine L2.lc_it w (g := g) (tt := tt) (te := te) (vs := vs) (σ := σ) (H1 := H1) (D := D) (Qd := fun H' => Q (.ref D) H')
          (fun i H' => ∃ env3 acc av, Rel K C (D :: F) (L2.wipe σ vs) H' env3 ∧ (∀ (j : Nat) b e, env3[j]? = some (.own b e) → (L2.wipe σ vs)[j]? ≠ some (some (.ref D))) ∧ Ex (off F H1) (off (D :: F) H') ∧ H' D = some (.lst av) ∧ Reps K (off (D :: F) H') av acc ∧ acc.length ≤ i ∧ mLcL mg mt m vs (ds.drop i) acc env3 = some (res, env2))
          ⟨wipeE env1 vs, [], [], rD, fun j b e hj => (r1.wiped nop).noslot hD hj, exD, upd_same, .nil, Nat.le_refl _, h2⟩
          (fun i H' _ ⟨_, _, _, _, _, ex, _⟩ => stab (D :: F) H' ex) (fun i x H2 H3 hlt ⟨env3, acc, av, r3, s3, ex3, hav, rav, hle, e3⟩ y => ?_) (fun H' ⟨env3, acc, av, r3, s3, ex3, hav, rav, hle, e3⟩ => ?_)
        · have hd : ds[i]? = some ds[i] := List.getElem?_eq_getElem hlt
          rw [List.drop_eq_getElem_cons hlt] at e3
          unfold mLcL at e3
          obtain ⟨ex4, p4⟩ := yl i H2 x H3 (D :: F) ds[i] hd r3.live ex3 y
          have r4 : Rel K { C with pin := upd C.pin D (.lst av) } (D :: F) (L2.wipe σ vs) H3 env3 := (r3.grow ex4).pinned (ex4 D _ hav) (List.mem_cons_self ..) s3
          have ex34 : Ex (off F H1) (off (D :: F) H3) := ex3.trans (off_mono ex4)
          split at e3
          · rename_i env5 h5
            refine hg _ (D :: F) (L2.wipe σ vs) H3 env3 x ds[i] env5 _ r4 p4 h5 fun σ6 r6 l6 k6 => ?_
            have hw : L2.wipe σ6 vs = L2.wipe σ vs := wipe_same (by rw [l6, L2.wipe_length]) fun j hj => k6 j fun z => hj (hbs j z)
            refine ⟨hw, ?_⟩
            have again : ∀ (H8 : Hp) (env8 : Env) (o : HO), Rel K { C with pin := upd C.pin D (.lst av) } (D :: F) σ6 H8 env8 → Rel K C (D :: F) (L2.wipe σ vs) (upd H8 D o) (wipeE env8 vs) ∧ Rel K C (D :: F) (L2.wipe σ vs) H8 (wipeE env8 vs) ∧ (∀ (j : Nat) b e, (wipeE env8 vs)[j]? = some (.own b e) → (L2.wipe σ vs)[j]? ≠ some (some (.ref D))) ∧ H8 D = some (.lst av) := fun H8 env8 o r8 => by
              obtain ⟨x8, y8, z8⟩ := r8.pins D (.lst av) (show upd C.pin D (.lst av) D = some (.lst av) from upd_same)
              have r9 : Rel K C (D :: F) (L2.wipe σ vs) H8 (wipeE env8 vs) := by
                rw [← hw]; exact (r8.unpinned pD).wiped nop
              have s9 : ∀ (j : Nat) b e, (wipeE env8 vs)[j]? = some (.own b e) → (L2.wipe σ vs)[j]? ≠ some (some (.ref D)) := fun j b e hj => by
                by_cases hjv : j ∈ vs
                · have hlt8 : j < env8.length := by
                    have := (List.getElem?_eq_some_iff.mp hj).1
                    rw [wipeE_length] at this; exact this
                  rw [wipeE_in hjv hlt8] at hj; cases hj
                · rw [wipeE_out hjv] at hj
                  rw [← hw, wipe_out' hjv]
                  exact z8 j b e hj
              exact ⟨r9.updF (List.mem_cons_self ..) zD pD s9, r9, s9, x8⟩
            split at e3
            · rename_i env6 h6
              refine ht _ (D :: F) σ6 H3 env5 true env6 _ r6 h6 fun H7 r7 e7 => ?_
              rw [if_pos rfl]
              split at e3
              · rename_i yv env7 h7
                refine he _ (D :: F) σ6 H7 env6 yv env7 _ r7 h7 fun v H8 r8 e8 p8 => ?_
                obtain ⟨ra, rb, rc, rd⟩ := again H8 env7 (.lst (av ++ [v])) r8
                have exF : Ex (off (D :: F) H3) (off (D :: F) H8) := e7.trans e8
                have hal : av.length = acc.length := rav.length
                have eo : off (D :: F) (upd H8 D (.lst (av ++ [v]))) = off (D :: F) H8 := off_upd (List.mem_cons_self ..)
                refine ⟨av, rd, Nat.lt_of_le_of_lt (show av.length ≤ 100000 by omega) (by decide), wipeE env7 vs, acc ++ [yv], av ++ [v], ra, rc, ?_, upd_same, ?_, ?_, e3⟩
                · rw [eo]; exact ex34.trans exF
                · rw [eo]
                  exact (rav.mono ((off_mono ex4).trans exF)).append (.cons p8 .nil)
                · rw [List.length_append, List.length_singleton]; omega
              · cases e3
            · rename_i env6 h6
              refine ht _ (D :: F) σ6 H3 env5 false env6 _ r6 h6 fun H7 r7 e7 => ?_
              rw [if_neg Bool.false_ne_true]
              obtain ⟨_, rb, rc, rd⟩ := again H7 env6 (.lst []) r7
              exact ⟨wipeE env6 vs, acc, av, rb, rc, ex34.trans e7, rd, rav.mono ((off_mono ex4).trans e7), by omega, e3⟩
            · cases e3
          · cases e3
        · rw [List.drop_length] at e3
          unfold mLcL at e3
          cases e3
          have rb := Rel.back (vs := vs) (r1.laid (o := .lst []) hD) r3 hpl (off_cons_back.trans ex3)
          refine q D H' hD0 (fun j b e hj => ?_) rb (e1.trans ex3) ⟨av, hav, rav⟩
          by_cases hjv : j ∈ vs
          · have hl2 : env2.length = env1.length := by rw [← r3.len, L2.wipe_length, r1.len]
            rw [backE_in hl2 hjv] at hj
            have := List.all_eq_true.mp hpl j hjv
            rw [hj] at this; cases this
          · rw [backE_out hjv] at hj
            rw [← wipe_out' (σ := σ) hjv]
            exact s3 j b e hj
      · cases e
    · cases e
  · cases e
end
end Mir
/-! Defs: their promises over data, their calls. -/
namespace Mir
open PySem L2
open PyProof.Rows (envOfC)
/-- a def of n parameters, all of them values -/
def sp0 (K : Fg) (n : Nat) (m : List D → Option D) : Sp := fun vs H Q _ => vs.length = n ∧ ∃ (F : List Addr) (ds : List D) (r : D), (∀ p ∈ F, ∃ o, H p = some o) ∧ Reps K (off F H) vs ds ∧ m ds = some r ∧
  ∀ v H', Ex H H' → Rep K (off F H') v r → Q v H'
/-- a def whose first parameter is changed, with n more -/
def sp1 (K : Fg) (n : Nat) (m : List D → Option (D × D)) : Sp := fun vs H Q _ => vs.length = n + 1 ∧ ∃ (p : Addr) (ws : List V) (F : List Addr) (d0 : D) (ds : List D) (r d1 : D), vs = .ref p :: ws ∧ (∀ p ∈ F, ∃ o, H p = some o) ∧ p ∈ F ∧ OwnAt K F H p d0 ∧
  Reps K (off F H) ws ds ∧ m (d0 :: ds) = some (r, d1) ∧ ∀ v H', (∀ a o, a ≠ p → H a = some o → H' a = some o) → OwnAt K F H' p d1 → Rep K (off F H') v r → Q v H'
/-- a def of n parameters, all of them values, that gives back a new object -/
def spN (K : Fg) (n : Nat) (m : List D → Option D) : Sp := fun vs H Q _ => vs.length = n ∧ ∃ (F : List Addr) (ds : List D) (r : D), (∀ p ∈ F, ∃ o, H p = some o) ∧ Reps K (off F H) vs ds ∧ m ds = some r ∧
  ∀ p H', H p = none → Ex H H' → OwnAt K (p :: F) H' p r → Q (.ref p) H'
def runFnN (n k : Nat) (b : MS) (ds : List D) : Option D := if ds.length = k then match b (ds.map Sl.val ++ List.replicate (n - k) Sl.un) with
    | some (.ro d, _) => some d
    | _ => none
  else none
def runFn0 (n k : Nat) (b : MS) (ds : List D) : Option D := if ds.length = k then match b (ds.map Sl.val ++ List.replicate (n - k) Sl.un) with
    | some (.rt d, _) => some d
    | some (.nx, _) => some .non
    | _ => none
  else none
def runFn1 (n k : Nat) (b : MS) (ds : List D) : Option (D × D) := match ds with
  | d0 :: ds => if ds.length = k then match b (Sl.own true d0 :: (ds.map Sl.val ++ List.replicate (n - (k + 1)) Sl.un)) with
      | some (.rt d, .own true d1 :: _) => some (d, d1)
      | some (.nx, .own true d1 :: _) => some (.non, d1)
      | _ => none
    else none
  | [] => none
theorem get_start {vs : List V} {n : Nat} {i : Nat} {v : V} (h : vs[i]? = some v) : (vs.map some ++ List.replicate n (none : Option V))[i]? = some (some v) := by
  have hl : i < vs.length := (List.getElem?_eq_some_iff.mp h).1
  rw [List.getElem?_append_left (by rw [List.length_map]; exact hl), List.getElem?_map, h]
  rfl
theorem get_env {ds : List D} {n : Nat} {i : Nat} {s : Sl} (h : (ds.map Sl.val ++ List.replicate n Sl.un)[i]? = some s) : (∃ d, s = .val d ∧ ds[i]? = some d) ∨ s = .un := by
  by_cases hl : i < ds.length
  · rw [List.getElem?_append_left (by rw [List.length_map]; exact hl), List.getElem?_map] at h
    cases e : ds[i]? with
    | none => rw [e] at h; cases h
    | some d => rw [e] at h; cases h; exact .inl ⟨d, rfl, rfl⟩
  · rw [List.getElem?_append_right (by rw [List.length_map]; omega)] at h
    have := List.mem_of_getElem? h
    exact .inr (List.eq_of_mem_replicate this)
section
variable {K : Fg}
theorem rel_start0 {F : List Addr} {H : Hp} {vs : List V} {ds : List D} {n : Nat} (hF : ∀ p ∈ F, ∃ o, H p = some o) (h : Reps K (off F H) vs ds) :
    Rel K ⟨[], H, F, fun _ => none⟩ F (vs.map some ++ List.replicate n none) H (ds.map Sl.val ++ List.replicate n Sl.un) where
  len := by simp [h.length]
  vals := fun i d e => by
    rcases get_env e with ⟨d', e1, e2⟩ | e1
    · cases e1
      obtain ⟨v, hv, hr⟩ := h.get e2
      exact ⟨v, get_start hv, hr⟩
    · cases e1
  owns := fun i b d e => by
    rcases get_env e with ⟨d', e1, _⟩ | e1
    · cases e1
    · cases e1
  apart := fun i j b c d e p _ h1 _ _ _ => by
    rcases get_env h1 with ⟨d', e1, _⟩ | e1
    · cases e1
    · cases e1
  pars := fun i p h => by cases h
  sub := fun p h => h
  old := fun a o _ h => h
  live := hF
  base := hF
  pmF := fun i p h => by cases h
  pins := fun a o h => by cases h
theorem rel_start1 {F : List Addr} {H : Hp} {p : Addr} {d0 : D} {vs : List V} {ds : List D} {n : Nat} (hF : ∀ p ∈ F, ∃ o, H p = some o) (hp : p ∈ F) (ho : OwnAt K F H p d0) (h : Reps K (off F H) vs ds) :
    Rel K ⟨[(0, p)], H, F, fun _ => none⟩ F (some (.ref p) :: (vs.map some ++ List.replicate n none)) H (Sl.own true d0 :: (ds.map Sl.val ++ List.replicate n Sl.un)) := by
  have gs : ∀ (i : Nat) b d, (Sl.own true d0 :: (ds.map Sl.val ++ List.replicate n Sl.un))[i]? = some (.own b d) → i = 0 ∧ b = true ∧ d = d0 := fun i b d e => by
    cases i with
    | zero => cases e; exact ⟨rfl, rfl, rfl⟩
    | succ i =>
      rw [List.getElem?_cons_succ] at e
      rcases get_env e with ⟨d', e1, _⟩ | e1
      · cases e1
      · cases e1
  refine ⟨by simp [h.length], fun i d e => ?_, fun i b d e => ?_, fun i j b c d e q ne h1 h2 s1 s2 => ?_, fun i q h => ?_, fun p h => h, fun a o _ h => h, hF, hF, fun i q h => ?_, fun a o h => by cases h⟩
  · cases i with
    | zero => cases e
    | succ i =>
      rw [List.getElem?_cons_succ] at e
      rcases get_env e with ⟨d', e1, e2⟩ | e1
      · cases e1
        obtain ⟨v, hv, hr⟩ := h.get e2
        exact ⟨v, by rw [List.getElem?_cons_succ]; exact get_start hv, hr⟩
      · cases e1
  · obtain ⟨rfl, rfl, rfl⟩ := gs i b d e
    exact ⟨p, rfl, hp, ho, fun _ => List.mem_singleton.mpr rfl, fun z => by cases z⟩
  · obtain ⟨rfl, _, _⟩ := gs i b d h1
    obtain ⟨rfl, _, _⟩ := gs j c e h2
    exact ne rfl
  · cases List.mem_singleton.mp h
    exact ⟨rfl, d0, rfl⟩
  · cases List.mem_singleton.mp h
    exact hp
variable {P : Program} {w : World} {mg : Str → Option Value} {base : Heap}
theorem fn0 {x qual : Str} {params : Arguments} {body : List Stmt} {scope : Scope} {dvs : List V} {kws : List (Str × V)} {f : Addr} {fd : FuncData} {N ps : List Str} {k : Nat} {b : MS} (F : FunD K x qual params body scope dvs kws f fd) (S : FnScope N ps scope)
    (hb : ∀ (cdv : Value) (A : Around) (outer : List PySem.Env) (s : Shared) (H : Hp) (E : XK), Room k (A.deeper (envOfC qual scope s.heap.objs.size f cdv)) → ∃ t, PSs (cxOf CX0 P w K mg base N qual scope f cdv A outer s H E) body t ∧ SimS K t b) :
    FnOk P w K mg base CX0 (k + 1) f fd ps (sp0 K ps.length (runFn0 N.length ps.length b)) := by
  refine F.ok S (fun vs H Q E h => h.1) (fun cdv A outer s H vs Q E hr h => ?_)
  obtain ⟨t, hP, hS⟩ := hb cdv A outer s H E hr
  refine ⟨t, hP, ?_⟩
  obtain ⟨hl, F', ds, r, hF, hrep, hm, q⟩ := h
  unfold runFn0 at hm
  split at hm
  · rename_i hk
    have r0 := rel_start0 (n := N.length - vs.length) hF hrep
    have hlv : vs.length = ps.length := hl
    rw [← hlv] at hm
    cases hres : b (ds.map Sl.val ++ List.replicate (N.length - vs.length) Sl.un) with
    | none => rw [hres] at hm; cases hm
    | some z =>
      obtain ⟨fl, env'⟩ := z
      rw [hres] at hm
      refine hS _ F' _ H _ fl env' _ r0 hres fun F2 σ2 H2 r2 e2 => ?_
      have old : Ex H H2 := fun a o e => r2.old a o (fun i z => by cases z) e
      have sub : ∀ p ∈ F', p ∈ F2 := r2.sub
      cases fl with
      | nx => cases hm; exact q _ H2 old .non
      | rt d => cases hm; exact fun v hv => q v H2 old (hv.mono (off_sub sub))
      | bk => cases hm
      | ct => cases hm
      | ro d => cases hm
  · cases hm
theorem fnN {x qual : Str} {params : Arguments} {body : List Stmt} {scope : Scope} {dvs : List V} {kws : List (Str × V)} {f : Addr} {fd : FuncData} {N ps : List Str} {k : Nat} {b : MS} (F : FunD K x qual params body scope dvs kws f fd) (S : FnScope N ps scope)
    (hb : ∀ (cdv : Value) (A : Around) (outer : List PySem.Env) (s : Shared) (H : Hp) (E : XK), Room k (A.deeper (envOfC qual scope s.heap.objs.size f cdv)) → ∃ t, PSs (cxOf CX0 P w K mg base N qual scope f cdv A outer s H E) body t ∧ SimS K t b) :
    FnOk P w K mg base CX0 (k + 1) f fd ps (spN K ps.length (runFnN N.length ps.length b)) := by
  refine F.ok S (fun vs H Q E h => h.1) (fun cdv A outer s H vs Q E hr h => ?_)
  obtain ⟨t, hP, hS⟩ := hb cdv A outer s H E hr
  refine ⟨t, hP, ?_⟩
  obtain ⟨hl, F', ds, r, hF, hrep, hm, q⟩ := h
  unfold runFnN at hm
  split at hm
  · rename_i hk
    have r0 := rel_start0 (n := N.length - vs.length) hF hrep
    have hlv : vs.length = ps.length := hl
    rw [← hlv] at hm
    cases hres : b (ds.map Sl.val ++ List.replicate (N.length - vs.length) Sl.un) with
    | none => rw [hres] at hm; cases hm
    | some z =>
      obtain ⟨fl, env'⟩ := z
      rw [hres] at hm
      refine hS _ F' _ H _ fl env' _ r0 hres fun F2 σ2 H2 r2 e2 => ?_
      have old : Ex H H2 := fun a o e => r2.old a o (fun i z => by cases z) e
      have sub : ∀ p ∈ F', p ∈ F2 := r2.sub
      cases fl with
      | nx => cases hm
      | rt d => cases hm
      | bk => cases hm
      | ct => cases hm
      | ro d =>
        cases hm
        refine fun p pF h0 oa => q p H2 h0 old (oa.to (off_sub fun x hx => ?_) rfl)
        rcases List.mem_cons.mp hx with hx | hx
        · exact hx ▸ pF
        · exact sub x hx
  · cases hm
theorem fn1 {x qual : Str} {params : Arguments} {body : List Stmt} {scope : Scope} {dvs : List V} {kws : List (Str × V)} {f : Addr} {fd : FuncData} {N : List Str} {p0 : Str} {ps : List Str} {k : Nat} {b : MS} (F : FunD K x qual params body scope dvs kws f fd) (S : FnScope N (p0 :: ps) scope)
    (hb : ∀ (cdv : Value) (A : Around) (outer : List PySem.Env) (s : Shared) (H : Hp) (E : XK), Room k (A.deeper (envOfC qual scope s.heap.objs.size f cdv)) → ∃ t, PSs (cxOf CX0 P w K mg base N qual scope f cdv A outer s H E) body t ∧ SimS K t b) :
    FnOk P w K mg base CX0 (k + 1) f fd (p0 :: ps) (sp1 K ps.length (runFn1 N.length ps.length b)) := by
  refine F.ok S (fun vs H Q E h => h.1) (fun cdv A outer s H vs Q E hr h => ?_)
  obtain ⟨t, hP, hS⟩ := hb cdv A outer s H E hr
  refine ⟨t, hP, ?_⟩
  obtain ⟨hl, p, ws, F', d0, ds, r, d1, rfl, hF, hp, ho, hrep, hm, q⟩ := h
  unfold runFn1 at hm
  dsimp only at hm
  split at hm
  · rename_i hk
    have r0 := rel_start1 (n := N.length - (ws.length + 1)) hF hp ho hrep
    have hlv : ws.length = ps.length := Nat.succ.inj hl
    rw [← hlv] at hm
    have hst : L2.start N (V.ref p :: ws) = some (.ref p) :: (ws.map some ++ List.replicate (N.length - (ws.length + 1)) none) := rfl
    rw [hst]
    cases hres : b (Sl.own true d0 :: (ds.map Sl.val ++ List.replicate (N.length - (ws.length + 1)) Sl.un)) with
    | none => rw [hres] at hm; cases hm
    | some z =>
      obtain ⟨fl, env'⟩ := z
      rw [hres] at hm
      refine hS _ F' _ H _ fl env' _ r0 hres fun F2 σ2 H2 r2 e2 => ?_
      have sub : ∀ p ∈ F', p ∈ F2 := r2.sub
      have old : ∀ a o, a ≠ p → H a = some o → H2 a = some o := fun a o ne e => r2.old a o (fun i z => ne (by have := List.mem_singleton.mp z; cases this; rfl)) e
      obtain ⟨s0, dd, hd⟩ := r2.pars 0 p (List.mem_singleton.mpr rfl)
      obtain ⟨p', s1, _, o1, _, _⟩ := r2.owns 0 true dd hd
      have ep : p = p' := by rw [s0] at s1; cases s1; rfl
      subst ep
      have o2 : OwnAt K F' H2 p dd := o1.to (off_sub sub) rfl
      cases env' with
      | nil => cases hd
      | cons s rest =>
        have hs : s = .own true dd := by cases hd; rfl
        subst hs
        cases fl with
        | nx => cases hm; exact q _ H2 old o2 .non
        | rt d => cases hm; exact fun v hv => q v H2 old o2 (hv.mono (off_sub sub))
        | bk => cases hm
        | ct => cases hm
        | ro d => cases hm
  · cases hm
end
/-! ### calls -/
def mCall0 (m : List D → Option D) (as : List Arg) : ME := fun env => match runArgs as env with
  | some (rs, env1) => match getAllV env1 rs with
    | some ds => match m ds with
      | some r => some (r, env1)
      | none => none
    | none => none
  | none => none
def mCall1 (m : List D → Option (D × D)) (i : Nat) (as : List Arg) : ME := fun env => match env[i]? with
  | some (.own _ _) => match runArgs as env with
    | some (rs, env1) => match env1[i]? with
      | some (.own b d0) => match getAllV env1 rs with
        | some ds => match m (d0 :: ds) with
          | some (r, d1) => some (r, env1.set i (.own b d1))
          | none => none
        | none => none
      | _ => none
    | none => none
  | _ => none
section
variable {K : Fg} {E : XK} {ta : TA} {as : List Arg} {n : Nat}
theorem sim_call0 {m : List D → Option D} (hn : as.length = n) (ha : SimA K ta as) : SimE K (tCall (sp0 K n m) [] E ta) (mCall0 m as) := fun C F σ H env d env' Q r e q => by
  unfold mCall0 at e
  split at e
  · rename_i rs env1 h1
    split at e
    · rename_i ds h2
      split at e
      · rename_i res h3
        cases e
        refine ha C F σ H env rs env' _ r h1 fun vs H1 r1 e1 p1 => ?_
        refine ⟨by rw [List.append_nil, p1.length, runArgs_length h1]; exact hn, F, ds, d, r1.live, by rw [List.append_nil]; exact p1.reps r1 h2, h3, fun v H2 e2 p2 => ?_⟩
        exact q v H2 (r1.grow e2) (e1.trans (off_mono e2)) p2
      · cases e
    · cases e
  · cases e
/-- a new object out of a call -/
theorem sim_callN {m : List D → Option D} (hn : as.length = n) (ha : SimA K ta as) : SimN K (tCall (spN K n m) [] E ta) (mCall0 m as) := fun C F σ H env d env' Q r e q => by
  unfold mCall0 at e
  split at e
  · rename_i rs env1 h1
    split at e
    · rename_i ds h2
      split at e
      · rename_i res h3
        cases e
        refine ha C F σ H env rs env' _ r h1 fun vs H1 r1 e1 p1 => ?_
        refine ⟨by rw [List.append_nil, p1.length, runArgs_length h1]; exact hn, F, ds, d, r1.live, by rw [List.append_nil]; exact p1.reps r1 h2, h3, fun p H2 hp e2 o2 => ?_⟩
        have hp0 : H p = none := by
          cases h0 : H p with
          | none => rfl
          | some o =>
            by_cases pF : p ∈ F
            · obtain ⟨u, hu⟩ := r1.live p pF
              rw [hp] at hu; cases hu
            · have := e1 p o (off_some.mpr ⟨pF, h0⟩)
              rw [off_some, hp] at this
              exact absurd this.2 (by simp)
        have oc : Ex (off F H1) (off (p :: F) H2) := fun a u e => by
          rw [off_some] at e ⊢
          have ne : a ≠ p := ne_of_none e.2 hp
          exact ⟨fun z => by rcases List.mem_cons.mp z with z | z; exact ne z; exact e.1 z, e2 a u e.2⟩
        obtain ⟨u, hu⟩ := o2.live
        have r2 : Rel K C (p :: F) σ H2 env' := by
          have ex2 : Ex (upd H1 p u) H2 := fun a o e => by
            by_cases z : a = p
            · subst z; rw [upd_same] at e; cases e; exact hu
            · rw [upd_ne z] at e; exact e2 a o e
          exact (r1.laid hp).grow ex2
        exact q p H2 hp0 (fun j b e he => r1.noslot hp he) r2 (e1.trans oc) o2
      · cases e
    · cases e
  · cases e
/-- behind a call that changed the object of slot i -/
theorem Rel.called {C : Cfg} {F : List Addr} {σ : L2.St} {H H' : Hp} {env : Env} {i : Nat} {b : Bool} {d d' : D} {p : Addr} (r : Rel K C F σ H env) (hi : env[i]? = some (.own b d)) (hp : σ[i]? = some (some (.ref p))) (hk : ∀ a o, a ≠ p → H a = some o → H' a = some o) (ho : OwnAt K F H' p d') :
    Rel K C F σ H' (env.set i (.own b d')) ∧ Ex (off F H) (off F H') := by
  obtain ⟨p', e1, pF, oa, e2, e3⟩ := r.owns i b d hi
  have ep : p = p' := by rw [hp] at e1; cases e1; rfl
  subst ep
  have exF : Ex (off F H) (off F H') := fun a o h => by
    rw [off_some] at h ⊢
    exact ⟨h.1, hk a o (fun z => h.1 (z ▸ pF)) h.2⟩
  have hlt : i < env.length := (List.getElem?_eq_some_iff.mp hi).1
  have gs : ∀ (j : Nat), (env.set i (.own b d'))[j]? = if j = i then some (Sl.own b d') else env[j]? := fun j => by
    by_cases e : j = i
    · subst e; rw [if_pos rfl, List.getElem?_set_self hlt]
    · rw [if_neg e, List.getElem?_set_ne (fun q => e q.symm)]
  refine ⟨⟨by rw [List.length_set]; exact r.len, fun j e h => ?_, fun j c e h => ?_, fun j k c c' e e' q ne h1 h2 s1 s2 => ?_, fun j q h => ?_, r.sub, fun a u h q => ?_, fun q h => ?_, r.base, r.pmF, fun a u h => ?_⟩, exF⟩
  · rw [gs] at h
    by_cases z : j = i
    · rw [if_pos z] at h; cases h
    · rw [if_neg z] at h
      obtain ⟨v, a, bb⟩ := r.vals j e h
      exact ⟨v, a, bb.mono exF⟩
  · rw [gs] at h
    by_cases z : j = i
    · rw [if_pos z] at h; cases h; subst z; exact ⟨p, hp, pF, ho, e2, e3⟩
    · rw [if_neg z] at h
      obtain ⟨q, s1, qF, oq, e4, e5⟩ := r.owns j c e h
      have qp : q ≠ p := fun x => r.apart j i c b e d p z h hi (x ▸ s1) hp
      obtain ⟨u, hu⟩ := oq.live
      exact ⟨q, s1, qF, oq.to exF ((hk q u qp hu).trans hu.symm), e4, e5⟩
  · have hh : ∀ (m : Nat) cc ee, (env.set i (.own b d'))[m]? = some (.own cc ee) → ∃ ff, env[m]? = some (.own cc ff) := fun m cc ee hm => by
      rw [gs] at hm
      by_cases z : m = i
      · rw [if_pos z] at hm; cases hm; subst z; exact ⟨d, hi⟩
      · rw [if_neg z] at hm; exact ⟨ee, hm⟩
    obtain ⟨f1, g1⟩ := hh j c e h1
    obtain ⟨f2, g2⟩ := hh k c' e' h2
    exact r.apart j k c c' f1 f2 q ne g1 g2 s1 s2
  · obtain ⟨s1, dd, hd⟩ := r.pars j q h
    refine ⟨s1, ?_⟩
    rw [gs]
    by_cases z : j = i
    · subst z; rw [if_pos rfl]; rw [hi] at hd; cases hd; exact ⟨d', rfl⟩
    · rw [if_neg z]; exact ⟨dd, hd⟩
  · have ap : a ≠ p := by
      intro x; subst x
      cases b with
      | true => exact h i (e2 rfl)
      | false => rw [e3 rfl] at q; cases q
    exact hk a u ap (r.old a u h q)
  · by_cases z : q = p
    · subst z; exact ho.live
    · obtain ⟨u, hu⟩ := r.live q h
      exact ⟨u, hk q u z hu⟩
  · obtain ⟨x, y, z⟩ := r.pins a u h
    have ne : a ≠ p := fun w => z i b d hi (by rw [w]; exact hp)
    refine ⟨hk a u ne x, y, fun j c e he => ?_⟩
    rw [gs] at he
    by_cases w : j = i
    · subst w; exact z j b d hi
    · rw [if_neg w] at he; exact z j c e he
theorem sim_call1 {m : List D → Option (D × D)} {i : Nat} (hn : as.length = n) (ha : SimA K ta as) : SimE K (tCall (sp1 K n m) [] E (tCons (tVar i) ta)) (mCall1 m i as) := fun C F σ H env d env' Q r e q => by
  unfold mCall1 at e
  split at e
  · rename_i b0 d00 hi0
    obtain ⟨p0, hv, _⟩ := r.owns i b0 d00 hi0
    split at e
    · rename_i rs env1 h1
      split at e
      · rename_i b d0 hi
        split at e
        · rename_i ds h2
          split at e
          · rename_i res d1 h3
            cases e
            refine ⟨_, hv, ?_⟩
            refine ha C F σ H env rs env1 _ r h1 fun vs H1 r1 e1 p1 => ?_
            obtain ⟨p, s1, pF, oa, _, _⟩ := r1.owns i b d0 hi
            have ep : p0 = p := by rw [hv] at s1; cases s1; rfl
            subst ep
            refine ⟨by rw [List.append_nil, List.length_cons, p1.length, runArgs_length h1, hn], p0, vs, F, d0, ds, d, d1, by rw [List.append_nil], r1.live, pF, oa, p1.reps r1 h2, h3, fun w H2 hk ho p2 => ?_⟩
            obtain ⟨r2, ex2⟩ := r1.called hi hv hk ho
            exact q w H2 r2 (e1.trans ex2) p2
          · cases e
        · cases e
      · cases e
    · cases e
  · cases e
end
end Mir
/-! Operations by values: the mirror's functions, their rules. -/
namespace Mir
open PySem L2
section
variable {K : Fg} {F : List Addr} {H : Hp} {v : V} {d : D}
theorem RepB.int {i : Int} (h : RepB K F H v (.int i)) : v = .int i := h.full.int_inv
theorem RepB.bl {i : Bool} (h : RepB K F H v (.bl i)) : v = .bl i := h.full.bl_inv
theorem RepB.str {i : Str} (h : RepB K F H v (.str i)) : v = .str i := h.full.str_inv
theorem RepB.non (h : RepB K F H v .non) : v = .non := h.full.non_inv
theorem RepB.lst {ds : List D} (h : RepB K F H v (.lst ds)) : ∃ p xs, v = .ref p ∧ H p = some (.lst xs) ∧ Reps K (off F H) xs ds := by
  rcases h with h | ⟨p, rfl, xs, h, r⟩
  · cases h with | lst h r => exact ⟨_, _, rfl, off_ex _ _ h, r⟩
  · exact ⟨p, xs, rfl, h, r⟩
theorem RepB.tup {ds : List D} (h : RepB K F H v (.tup ds)) : ∃ p xs, v = .ref p ∧ SqT K H p xs ∧ Reps K (off F H) xs ds ∧ Rep K (off F H) v (.tup ds) := by
  rcases h with h | ⟨p, rfl, h⟩
  · have h0 := h
    cases h with | tup h r => exact ⟨_, _, rfl, ex_t off_ex h.sq, r, h0⟩
  · exact h.elim
theorem RepB.scr {ns : List Int} (h : RepB K F H v (.scr ns)) : ∃ p, v = .ref p ∧ SqL K H p (ns.map V.int) := by
  rcases h with h | ⟨p, rfl, h⟩
  · cases h with | scr h => exact ⟨_, rfl, ex_l off_ex h⟩
  · exact h.elim
theorem RepB.dk {ks : List Key} {ds : List D} (h : RepB K F H v (.dk ks ds)) : ∃ p xs, v = .ref p ∧ xs.length = ks.length ∧ H p = some (.dK (ks.zip xs)) ∧ Reps K (off F H) xs ds := by
  rcases h with h | ⟨p, rfl, xs, l, h, r⟩
  · cases h with | dk l h r => exact ⟨_, _, rfl, l, off_ex _ _ h, r⟩
  · exact ⟨p, xs, rfl, l, h, r⟩
theorem RepB.dt {hs : HS} {ks : List (List Key)} {ds : List D} (h : RepB K F H v (.dt hs ks ds)) : ∃ (p : Addr) (L : TLi), v = .ref p ∧ L.map (·.1) = ks ∧ H p = some (dictO hs p L) ∧ KeysAt H L ∧ Reps K (off F H) (L.map (·.2.2)) ds := by
  rcases h with h | ⟨p, rfl, L, l, h, k, r⟩
  · cases h with | dt l h k r => exact ⟨_, _, rfl, l, off_ex _ _ h, k.ex off_ex, r⟩
  · exact ⟨p, L, rfl, l, h, k.ex off_ex, r⟩
theorem fresh_notin (hF : ∀ p ∈ F, ∃ o, H p = some o) {p : Addr} (h : H p = none) : p ∉ F := fun q => by
  obtain ⟨o, ho⟩ := hF p q
  rw [h] at ho; cases ho
theorem new_tup (hF : ∀ p ∈ F, ∃ o, H p = some o) {p : Addr} {o : Obj} {zs : List V} {ds : List D} (h : H p = none) (fz : FzT o) (r : Reps K (off F H) zs ds) : Ex H (upd H p (.frz o (.tup zs))) ∧ Rep K (off F (upd H p (.frz o (.tup zs)))) (.ref p) (.tup ds) :=
  ⟨Ex.new h, .tup ⟨o, by rw [off_out (fresh_notin hF h)]; exact upd_same, fz⟩ (r.mono (off_mono (Ex.new h)))⟩
theorem new_lst (hF : ∀ p ∈ F, ∃ o, H p = some o) {p : Addr} {zs : List V} {ds : List D} (h : H p = none) (r : Reps K (off F H) zs ds) : Ex H (upd H p (.lst zs)) ∧ Rep K (off F (upd H p (.lst zs))) (.ref p) (.lst ds) :=
  ⟨Ex.new h, .lst (by rw [off_out (fresh_notin hF h)]; exact upd_same) (r.mono (off_mono (Ex.new h)))⟩
end
/-! ### whole numbers -/
def int2 (c : Int → Int → Bool) (g : Int → Int → Int) : D → D → Option D
  | .int i, .int j => if c i j then some (.int (g i j)) else none
  | _, _ => none
def cmp2 (g : Int → Int → Bool) : D → D → Option D
  | .int i, .int j => some (.bl (g i j))
  | _, _ => none
section
variable {K : Fg}
theorem rop_int2 {C : Int → Int → Prop} {g : Int → Int → Int} {c : Int → Int → Bool} (h : ∀ i j, c i j = true → C i j) : ROp K (rI C fun i j => .int (g i j)) (int2 c g) := fun F H x y a b d Q hF ra rb e q => by
  unfold int2 at e
  split at e
  · rename_i i j
    split at e
    · rename_i hc
      cases e
      rw [ra.int, rb.int]
      exact ⟨i, j, rfl, rfl, h i j hc, q _ H (Ex.refl _) (.int _)⟩
    · cases e
  · cases e
theorem rop_int0 {g : Int → Int → Int} : ROp K (rI0 fun i j => .int (g i j)) (int2 (fun _ _ => true) g) := fun F H x y a b d Q hF ra rb e q => by
  unfold int2 at e
  split at e
  · rename_i i j
    cases e
    rw [ra.int, rb.int]
    exact ⟨i, j, rfl, rfl, q _ H (Ex.refl _) (.int _)⟩
  · cases e
theorem rop_cmp {g : Int → Int → Bool} : ROp K (rI0 fun i j => .bl (g i j)) (cmp2 g) := fun F H x y a b d Q hF ra rb e q => by
  unfold cmp2 at e
  split at e
  · rename_i i j
    cases e
    rw [ra.int, rb.int]
    exact ⟨i, j, rfl, rfl, q _ H (Ex.refl _) (.bl _)⟩
  · cases e
end
def subD := int2 (fun _ _ => true) fun i j => i - j
def addI := int2 (fun _ _ => true) fun i j => i + j
def mulI := int2 (fun i j => decide (i.natAbs.log2 + j.natAbs.log2 < 1000000)) fun i j => i * j
def fdivD := int2 (fun _ j => decide (0 < j ∧ j.natAbs.log2 < 9000)) fun i j => i / j
def modD := int2 (fun _ j => decide (0 < j)) fun i j => i % j
def powD := int2 (fun i j => decide (0 ≤ j ∧ j ≤ 1000000 ∧ i.natAbs < 2 ^ 64)) fun i j => i ^ j.toNat
def shlD := int2 (fun i j => decide (0 ≤ j ∧ j ≤ 1000000 ∧ i.natAbs < 2 ^ 64)) fun i j => i * 2 ^ j.toNat
def shrD := int2 (fun _ j => decide (0 ≤ j)) fun i j => i / 2 ^ j.toNat
def andD := int2 (fun _ _ => true) fun i j => Builtin.bitAnd i j
def ltD := cmp2 fun i j => decide (i < j)
def leD := cmp2 fun i j => decide (i ≤ j)
def gtD := cmp2 fun i j => decide (j < i)
def geD := cmp2 fun i j => decide (j ≤ i)
def negD : D → Option D
  | .int i => some (.int (-i))
  | _ => none
def addD (a b : D) : Option D := match a with
  | .int i => match b with | .int j => some (.int (i + j)) | _ => none
  | .str x => match b with | .str y => if x.length + y.length ≤ 100000 then some (.str (x ++ y)) else none | _ => none
  | .tup xs => match b with | .tup ys => if xs.length + ys.length ≤ 100000 then some (.tup (xs ++ ys)) else none | _ => none
  | .lst xs => match b with | .lst ys => if xs.length + ys.length ≤ 100000 then some (.lst (xs ++ ys)) else none | _ => none
  | _ => none
def mulD (a b : D) : Option D := match a with
  | .int i => match b with | .int j => if i.natAbs.log2 + j.natAbs.log2 < 1000000 then some (.int (i * j)) else none | _ => none
  | .lst xs => match b with | .int k => if k ≤ 100000 ∧ -100000 ≤ k ∧ xs.length * k.toNat ≤ 100000 then some (.lst (List.replicate k.toNat xs).flatten) else none | _ => none
  | _ => none
def rAddAll (K : Fg) : R2 := fun x y H Q => (rI0 fun i j => V.int (i + j)) x y H Q ∨ (∃ i j, x = .str i ∧ y = .str j ∧ i.length + j.length ≤ sizeLine ∧ Q (.str (i ++ j)) H) ∨ rCatF K x y H Q ∨ rCat x y H Q
def rMulAll : R2 := fun x y H Q => (rI CMulW fun i j => V.int (i * j)) x y H Q ∨ rRep x y H Q
def rSlAll (K : Fg) : V → Option Int → Option Int → Hp → VK → Prop := fun x lo hi H Q => rSlL K x lo hi H Q ∨ rSlF K x lo hi H Q ∨ rSlS x lo hi H Q
section
variable {X : Cx}
theorem op_addAll : OpR X (binaryOp .Add) (rAddAll X.K) := op_add.or (op_add_str.or (op_catF.or op_cat))
theorem op_mulAll : OpR X (binaryOp .Mult) rMulAll := op_mulW.or op_rep
theorem sl_all : SlR X (rSlAll X.K) := sl_list.or (sl_tupF.or sl_str)
end
section
variable {K : Fg}
theorem Reps.nil_iff {H : Hp} {xs : List V} {ds : List D} (r : Reps K H xs ds) : xs = [] ↔ ds = [] := by
  cases r with
  | nil => simp
  | cons _ _ => simp
theorem Reps.rep {H : Hp} {xs : List V} {ds : List D} (r : Reps K H xs ds) : ∀ n, Reps K H (List.replicate n xs).flatten (List.replicate n ds).flatten
  | 0 => .nil
  | n + 1 => by
    rw [List.replicate_succ, List.replicate_succ, List.flatten_cons, List.flatten_cons]
    exact r.append (Reps.rep r n)
theorem small {n : Nat} (h : n ≤ 100000) : n ≤ sizeLine := Nat.le_trans h (by decide)
theorem rop_add : ROp K (rAddAll K) addD := fun F H x y a b d Q hF ra rb e q => by
  unfold addD at e
  split at e
  · split at e
    · cases e
      rw [ra.int, rb.int]
      exact .inl ⟨_, _, rfl, rfl, q _ H (Ex.refl _) (.int _)⟩
    · cases e
  · split at e
    · split at e
      · rename_i hl
        cases e
        rw [ra.str, rb.str]
        exact .inr (.inl ⟨_, _, rfl, rfl, small hl, q _ H (Ex.refl _) (.str _)⟩)
      · cases e
    · cases e
  · split at e
    · split at e
      · rename_i hl
        cases e
        obtain ⟨p, xs, ex, hx, rx, fx⟩ := ra.tup
        obtain ⟨p', ys, ey, hy, ry, fy⟩ := rb.tup
        subst ex ey
        refine .inr (.inr (.inl ⟨p, p', xs, ys, rfl, rfl, hx, hy, by rw [rx.length, ry.length]; exact small hl, fun z => ?_, fun _ z => ?_, fun _ _ p2 o2 hp fz => ?_⟩))
        · rw [rx.nil_iff] at z; subst z; exact q _ H (Ex.refl _) fy
        · rw [ry.nil_iff] at z; subst z; rw [List.append_nil] at q; exact q _ H (Ex.refl _) fx
        · obtain ⟨e1, r1⟩ := new_tup hF hp fz (rx.append ry)
          exact q _ _ e1 r1
      · cases e
    · cases e
  · split at e
    · split at e
      · rename_i hl
        cases e
        obtain ⟨p, xs, ex, hx, rx⟩ := ra.lst
        obtain ⟨p', ys, ey, hy, ry⟩ := rb.lst
        subst ex ey
        refine .inr (.inr (.inr ⟨p, p', xs, ys, rfl, rfl, hx, hy, by rw [rx.length, ry.length]; exact small hl, fun p2 hp => ?_⟩))
        obtain ⟨e1, r1⟩ := new_lst hF hp (rx.append ry)
        exact q _ _ e1 r1
      · cases e
    · cases e
  · cases e
theorem rop_mul : ROp K rMulAll mulD := fun F H x y a b d Q hF ra rb e q => by
  unfold mulD at e
  split at e
  · split at e
    · split at e
      · rename_i hl
        cases e
        rw [ra.int, rb.int]
        exact .inl ⟨_, _, rfl, rfl, hl, q _ H (Ex.refl _) (.int _)⟩
      · cases e
    · cases e
  · split at e
    · split at e
      · rename_i k hl
        cases e
        obtain ⟨p, xs, ex, hx, rx⟩ := ra.lst
        subst ex
        rw [rb.int]
        refine .inr ⟨p, k, xs, rfl, rfl, hx, by omega, by omega, by rw [rx.length]; exact small hl.2.2, fun p2 hp => ?_⟩
        obtain ⟨e1, r1⟩ := new_lst hF hp (rx.rep k.toNat)
        exact q _ _ e1 r1
      · cases e
    · cases e
  · cases e
theorem rop_sub : ROp K (rI0 fun i j => .int (i - j)) subD := rop_int0
theorem rop_fdiv : ROp K (rI CDivW fun i j => .int (i / j)) fdivD := rop_int2 fun i j h => (of_decide_eq_true h : 0 < j ∧ j.natAbs.log2 < 9000)
theorem rop_mod : ROp K (rI (fun _ j => 0 < j) fun i j => .int (i % j)) modD := rop_int2 fun i j h => of_decide_eq_true h
theorem rop_pow : ROp K (rI CPow fun i j => .int (i ^ j.toNat)) powD := rop_int2 fun i j h => (of_decide_eq_true h : 0 ≤ j ∧ j ≤ 1000000 ∧ i.natAbs < 2 ^ 64)
theorem rop_shl : ROp K (rI CPow fun i j => .int (i * 2 ^ j.toNat)) shlD := rop_int2 fun i j h => (of_decide_eq_true h : 0 ≤ j ∧ j ≤ 1000000 ∧ i.natAbs < 2 ^ 64)
theorem rop_shr : ROp K (rI (fun _ j => 0 ≤ j) fun i j => .int (i / 2 ^ j.toNat)) shrD := rop_int2 fun i j h => of_decide_eq_true h
theorem rop_and : ROp K (rI0 fun i j => .int (Builtin.bitAnd i j)) andD := rop_int0
theorem rop_lt : ROp K (rI0 fun i j => .bl (decide (i < j))) ltD := rop_cmp
theorem rop_le : ROp K (rI0 fun i j => .bl (decide (i ≤ j))) leD := rop_cmp
theorem rop_gt : ROp K (rI0 fun i j => .bl (decide (j < i))) gtD := rop_cmp
theorem rop_ge : ROp K (rI0 fun i j => .bl (decide (j ≤ i))) geD := rop_cmp
theorem run_neg : RUn K (rU fun i => .int (-i)) negD := fun F H x a d Q hF ra e q => by
  unfold negD at e
  split at e
  · cases e
    rw [ra.int]
    exact ⟨_, rfl, q _ H (Ex.refl _) (.int _)⟩
  · cases e
end
/-! ### is None -/
def isN : D → Bool
  | .non => true
  | _ => false
def isND (a b : D) : Option D := match b with | .non => some (.bl (isN a)) | _ => none
def notND (a b : D) : Option D := match b with | .non => some (.bl (!isN a)) | _ => none
section
variable {K : Fg}
theorem isN_iff {H : Hp} {v : V} {d : D} (h : Rep K H v d) : decide (v = V.non) = isN d := by
  cases h <;> rfl
theorem rop_isN : ROp K (fun x y H Q => y = .non ∧ Q (.bl (decide (x = .non))) H) isND := fun F H x y a b d Q hF ra rb e q => by
  unfold isND at e
  split at e
  · cases e
    refine ⟨rb.non, ?_⟩
    rw [isN_iff ra.full]
    exact q _ H (Ex.refl _) (.bl _)
  · cases e
theorem rop_notN : ROp K (fun x y H Q => y = .non ∧ Q (.bl (!decide (x = .non))) H) notND := fun F H x y a b d Q hF ra rb e q => by
  unfold notND at e
  split at e
  · cases e
    refine ⟨rb.non, ?_⟩
    rw [isN_iff ra.full]
    exact q _ H (Ex.refl _) (.bl _)
  · cases e
end
/-! ### == -/
mutual
def D.py : D → PyData
  | .non => .none
  | .bl b => .bool b
  | .int i => .int i
  | .str x => .str x
  | .tup xs => .tuple (D.pys xs)
  | .lst xs => .list (D.pys xs)
  | _ => .dict []
def D.pys : List D → List PyData
  | [] => []
  | x :: xs => D.py x :: D.pys xs
end
def D.sc : D → Bool
  | .non => true | .bl _ => true | .int _ => true | .str _ => true | _ => false
/-- == of scalars that are not a bool beside an int -/
def sceq : D → D → Option Bool
  | .non, .non => some true
  | .int i, .int j => some (decide (i = j))
  | .str x, .str y => some (decide (x = y))
  | .bl x, .bl y => some (decide (x = y))
  | .non, .int _ => some false | .non, .bl _ => some false | .non, .str _ => some false
  | .int _, .non => some false | .bl _, .non => some false | .str _, .non => some false
  | .int _, .str _ => some false | .str _, .int _ => some false | .bl _, .str _ => some false | .str _, .bl _ => some false
  | _, _ => none
def eqB (a b : D) : Option Bool := match sceq a b with
  | some r => some r
  | none => if SeqAt.shaped a.py = true ∧ SeqAt.shaped b.py = true then some (PyData.eqv a.py b.py) else none
def eqD (a b : D) : Option D := match eqB a b with | some r => some (.bl r) | none => none
def neD (a b : D) : Option D := match eqB a b with | some r => some (.bl (!r)) | none => none
def rEqAll (K : Fg) : R2 := fun x y H Q => rEq x y H Q ∨ rEqD K x y H Q
def rNeAll (K : Fg) : R2 := fun x y H Q => rNe x y H Q ∨ rNeD K x y H Q
theorem op_eqAll {X : Cx} (hu : X.A.units + 64 < cLine) : OpR X (compareOp .Eq) (rEqAll X.K) := op_eq.or (op_eqD hu)
theorem op_neAll {X : Cx} (hu : X.A.units + 64 < cLine) : OpR X (compareOp .NotEq) (rNeAll X.K) := op_ne.or (op_neD hu)
section
variable {K : Fg}
mutual
theorem Rep.dp {H : Hp} : ∀ {v : V} {d : D}, Rep K H v d → d.py.canLay0 = true → Dp K H v d.py
  | _, _, .non, _ => .non
  | _, _, .bl b, _ => .bl b
  | _, _, .int i, _ => .int i
  | _, _, .str x, _ => .str x
  | _, _, .ty _, h => by cases h
  | _, _, .tup h r, c => .tup h.sq (Reps.dps r c)
  | _, _, .lst h r, c => .lst (SqL.of h) (Reps.dps r c)
  | _, _, .scr _, h => by cases h
  | _, _, .dk _ _ _, h => by cases h
  | _, _, .dt _ _ _ _, h => by cases h
theorem Reps.dps {H : Hp} : ∀ {vs : List V} {ds : List D}, Reps K H vs ds → PyData.canLayAll0 (D.pys ds) = true → DpAll K H vs (D.pys ds)
  | _, _, .nil, _ => .nil
  | _, _, .cons h r, c => by
    have c' : (_ && _) = true := c
    rw [Bool.and_eq_true] at c'
    exact .cons (Rep.dp h c'.1) (Reps.dps r c'.2)
end
theorem sceq_ok {H : Hp} {x y : V} {a b : D} {r : Bool} (ra : Rep K H x a) (rb : Rep K H y b) (h : sceq a b = some r) : scal x y = true ∧ decide (x = y) = r := by
  cases ra <;> cases rb <;> first | (cases h; done) | (cases h; exact ⟨rfl, by simp⟩)
theorem rop_eq : ROp K (rEqAll K) eqD := fun F H x y a b d Q hF ra rb e q => by
  unfold eqD at e
  split at e
  · rename_i r h
    cases e
    unfold eqB at h
    split at h
    · rename_i r' hs
      cases h
      obtain ⟨s1, s2⟩ := sceq_ok ra.full rb.full hs
      exact .inl ⟨s1, by rw [s2]; exact q _ H (Ex.refl _) (.bl _)⟩
    · split at h
      · rename_i hc
        cases h
        exact .inr ⟨a.py, b.py, ra.full.dp (SeqAt.canLay_of_shaped hc.1), rb.full.dp (SeqAt.canLay_of_shaped hc.2), hc.1, hc.2, q _ H (Ex.refl _) (.bl _)⟩
      · cases h
  · cases e
theorem rop_ne : ROp K (rNeAll K) neD := fun F H x y a b d Q hF ra rb e q => by
  unfold neD at e
  split at e
  · rename_i r h
    cases e
    unfold eqB at h
    split at h
    · rename_i r' hs
      cases h
      obtain ⟨s1, s2⟩ := sceq_ok ra.full rb.full hs
      exact .inl ⟨s1, by rw [s2]; exact q _ H (Ex.refl _) (.bl _)⟩
    · split at h
      · rename_i hc
        cases h
        exact .inr ⟨a.py, b.py, ra.full.dp (SeqAt.canLay_of_shaped hc.1), rb.full.dp (SeqAt.canLay_of_shaped hc.2), hc.1, hc.2, q _ H (Ex.refl _) (.bl _)⟩
      · cases h
  · cases e
end
/-! ### in -/
def eqF : D → D → Bool
  | .non, .non => true
  | .bl a, .bl b => a == b
  | .bl a, .int b => (if a then 1 else 0) == b
  | .int a, .bl b => a == (if b then 1 else 0)
  | .int a, .int b => a == b
  | .str a, .str b => a == b
  | _, _ => false
def itemsOf : D → Option (List D)
  | .lst ds => some ds
  | .tup ds => some ds
  | _ => none
def inD (neg : Bool) (a b : D) : Option D := match itemsOf b with
  | some ds => if a.sc = true ∧ ds.all D.sc = true then some (.bl (if neg then !ds.any (fun y => eqF y a) else ds.any (fun y => eqF y a))) else none
  | none => none
section
variable {K : Fg}
theorem sc_flat {H : Hp} {v : V} {d : D} (r : Rep K H v d) (h : d.sc = true) : flatV v = true := by
  cases r <;> first | rfl | cases h
theorem sc_flats {H : Hp} : ∀ {vs : List V} {ds : List D}, Reps K H vs ds → ds.all D.sc = true → vs.all flatV = true
  | _, _, .nil, _ => rfl
  | _, _, .cons h r, c => by
    rw [List.all_cons, Bool.and_eq_true] at c ⊢
    exact ⟨sc_flat h c.1, sc_flats r c.2⟩
theorem eqF_V {H : Hp} {x y : V} {a b : D} (ra : Rep K H x a) (rb : Rep K H y b) (ha : a.sc = true) (hb : b.sc = true) : eqV x y = eqF a b := by
  cases ra <;> cases rb <;> first | rfl | (cases ha; done) | (cases hb; done)
theorem any_eqF {H : Hp} {x : V} {a : D} (ra : Rep K H x a) (ha : a.sc = true) : ∀ {vs : List V} {ds : List D}, Reps K H vs ds → ds.all D.sc = true → inV x vs = ds.any fun y => eqF y a
  | _, _, .nil, _ => rfl
  | _, _, .cons h r, c => by
    rw [List.all_cons, Bool.and_eq_true] at c
    have ih := any_eqF ra ha r c.2
    unfold inV at ih ⊢
    rw [List.any_cons, List.any_cons, eqF_V h ra c.1 ha, ih]
theorem RepB.items {F : List Addr} {H : Hp} {v : V} {d : D} {ds : List D} (h : RepB K F H v d) (e : itemsOf d = some ds) : ∃ p xs, v = .ref p ∧ (SqL K H p xs ∨ SqT K H p xs) ∧ Reps K (off F H) xs ds := by
  unfold itemsOf at e
  split at e
  · cases e
    obtain ⟨p, xs, a, b, c⟩ := h.lst
    exact ⟨p, xs, a, .inl (SqL.of b), c⟩
  · cases e
    obtain ⟨p, xs, a, b, c, _⟩ := h.tup
    exact ⟨p, xs, a, .inr b, c⟩
  · cases e
theorem rop_in {neg : Bool} : ROp K (rIn K neg) (inD neg) := fun F H x y a b d Q hF ra rb e q => by
  unfold inD at e
  split at e
  · rename_i ds hd
    split at e
    · rename_i hc
      cases e
      obtain ⟨p, xs, rfl, hs, rx⟩ := rb.items hd
      have rx' := rx.mono off_ex
      refine ⟨p, xs, rfl, hs, sc_flat ra.full hc.1, sc_flats rx' hc.2, ?_⟩
      rw [any_eqF ra.full hc.1 rx' hc.2]
      exact q _ H (Ex.refl _) (.bl _)
    · cases e
  · cases e
end
/-! ### subscripts, slices -/
def ixD (a b : D) : Option D := match b with
  | .int i => match a with
    | .lst ds => atI ds i
    | .tup ds => atI ds i
    | .str x => if x.length ≤ 100000 then match atI x.cps.toList i with | some c => some (.str ⟨#[c]⟩) | none => none else none
    | _ => none
  | _ => none
section
variable {K : Fg}
theorem Reps.atI {H : Hp} {vs : List V} {ds : List D} {i : Int} {d : D} (r : Reps K H vs ds) (h : atI ds i = some d) : ∃ v, L2.atI vs i = some v ∧ Rep K H v d := by
  unfold L2.atI at h ⊢
  rw [r.length]
  cases e : ixN ds.length i with
  | none => rw [e] at h; cases h
  | some j =>
    rw [e] at h
    exact r.get h
theorem rop_ix : ROp K (rIx K) ixD := fun F H x y a b d Q hF ra rb e q => by
  unfold ixD at e
  split at e
  · rename_i i
    rw [rb.int]
    split at e
    · obtain ⟨p, xs, rfl, h, r⟩ := ra.lst
      obtain ⟨v, hv, rv⟩ := r.atI e
      exact .inl ⟨p, xs, i, v, rfl, rfl, SqL.of h, hv, q v H (Ex.refl _) rv⟩
    · obtain ⟨p, xs, rfl, h, r, _⟩ := ra.tup
      obtain ⟨v, hv, rv⟩ := r.atI e
      exact .inr (.inl ⟨p, xs, i, v, rfl, rfl, h, hv, q v H (Ex.refl _) rv⟩)
    · split at e
      · rename_i hl
        split at e
        · rename_i c hc
          cases e
          rw [ra.str]
          exact .inr (.inr ⟨_, i, c, rfl, rfl, small hl, hc, q _ H (Ex.refl _) (.str _)⟩)
        · cases e
      · cases e
    · cases e
  · cases e
end
def cutD (xs : List D) (lo hi : Option Int) : List D := (xs.drop (HT.sIx xs.length 0 lo)).take (HT.sIx xs.length xs.length hi - HT.sIx xs.length 0 lo)
def slD (a : D) (lo hi : Option Int) : Option D := match a with
  | .lst ds => some (.lst (cutD ds lo hi))
  | .tup ds => some (.tup (cutD ds lo hi))
  | .str x => if x.length ≤ 100000 then some (.str (cutS x lo hi)) else none
  | _ => none
/-- a part of a slice: none, or an int -/
abbrev MO := Env → Option (Option Int × Env)
def oNone : MO := fun env => some (none, env)
def oSome (m : ME) : MO := fun env => match m env with | some (.int i, env1) => some (some i, env1) | _ => none
def SimO (K : Fg) (t : TO) (m : MO) : Prop := ∀ (C : Cfg) (F : List Addr) (σ : L2.St) (H : Hp) (env : Env) (o : Option Int) (env' : Env) (Q : Option Int → Hp → Prop), Rel K C F σ H env → m env = some (o, env') →
  (∀ H', Rel K C F σ H' env' → Ex (off F H) (off F H') → Q o H') → t σ H Q
def mSl (a : Arg) (lo hi : MO) : ME := fun env => match a.run env with
  | some (x, env1) => match lo env1 with
    | some (l, env2) => match hi env2 with
      | some (h, env3) => match getA env3 x with
        | some dx => match slD dx l h with
          | some d => some (d, env3)
          | none => none
        | none => none
      | none => none
    | none => none
  | none => none
section
variable {K : Fg} {te ta : TE} {m : ME} {a : Arg} {tl th : TO} {ml mh : MO}
theorem simO_none : SimO K tNoPart oNone := fun C F σ H env o env' Q r e q => by cases e; exact q H r (Ex.refl _)
theorem simO_some (h : SimE K te m) : SimO K (tPart te) (oSome m) := fun C F σ H env o env' Q r e q => by
  unfold oSome at e
  split at e
  · rename_i i env1 h1
    cases e
    exact h C F σ H env _ env' _ r h1 fun v H1 r1 e1 p1 => ⟨i, p1.int_inv, q H1 r1 e1⟩
  · cases e
theorem cut_reps {H : Hp} {xs : List V} {ds : List D} {lo hi : Option Int} (r : Reps K H xs ds) : Reps K H (cutV xs lo hi) (cutD ds lo hi) := by
  unfold cutV cutD
  rw [r.length]
  exact (r.drop _).take _
theorem sl_ok {F : List Addr} {H : Hp} {x : V} {a d : D} {lo hi : Option Int} {Q : VK} (hF : ∀ p ∈ F, ∃ o, H p = some o) (ra : RepB K F H x a) (e : slD a lo hi = some d) (q : ∀ v H', Ex H H' → Rep K (off F H') v d → Q v H') : rSlAll K x lo hi H Q := by
  unfold slD at e
  split at e
  · cases e
    obtain ⟨p, xs, rfl, h, r⟩ := ra.lst
    refine .inl ⟨p, xs, rfl, SqL.of h, fun p2 hp => ?_⟩
    obtain ⟨e1, r1⟩ := new_lst hF hp (cut_reps (lo := lo) (hi := hi) r)
    exact q _ _ e1 r1
  · cases e
    obtain ⟨p, xs, rfl, h, r, f⟩ := ra.tup
    refine .inr (.inl ⟨p, xs, rfl, h, fun z => ?_, fun _ p2 o2 hp fz => ?_⟩)
    · refine q _ H (Ex.refl _) ?_
      have : ∀ ds : List D, HT.sIx ds.length 0 lo = 0 ∧ HT.sIx ds.length ds.length hi = ds.length → cutD ds lo hi = ds := fun ds z => by
        unfold cutD
        rw [z.1, z.2, List.drop_zero, Nat.sub_zero, List.take_length]
      rw [this _ (by rw [← r.length]; exact z)]
      exact f
    · obtain ⟨e1, r1⟩ := new_tup hF hp fz (cut_reps (lo := lo) (hi := hi) r)
      exact q _ _ e1 r1
  · split at e
    · rename_i hl
      cases e
      rw [ra.str]
      exact .inr (.inr ⟨_, rfl, small hl, q _ H (Ex.refl _) (.str _)⟩)
    · cases e
  · cases e
theorem sim_sl (ha : SimX K ta a) (hl : SimO K tl ml) (hh : SimO K th mh) : SimE K (tSl (rSlAll K) ta tl th) (mSl a ml mh) := fun C F σ H env d env' Q rl e q => by
  unfold mSl at e
  split at e
  · rename_i x env1 h1
    split at e
    · rename_i l env2 h2
      split at e
      · rename_i h env3 h3
        split at e
        · rename_i dx hx
          split at e
          · rename_i d' hd
            cases e
            refine ha C F σ H env x env1 _ rl h1 fun v1 H1 r1 e1 p1 => ?_
            refine hl C F σ H1 env1 l env2 _ r1 h2 fun H2 r2 e2 => ?_
            refine hh C F σ H2 env2 h env' _ r2 h3 fun H3 r3 e3 => ?_
            refine sl_ok r3.live ((p1.mono (e2.trans e3)).val r3 hx) hd fun v H4 e4 p4 => ?_
            exact q v H4 (r3.grow e4) (((e1.trans e2).trans e3).trans (off_mono e4)) p4
          · cases e
        · cases e
      · cases e
    · cases e
  · cases e
end
end Mir
/-! Built-in functions, methods, changes of one's own lists, what is walked. -/
namespace Mir
open PySem L2
/-! ### built-in functions -/
def lenF : List D → Option D
  | [.lst ds] => some (.int (ds.length : Nat))
  | [.tup ds] => some (.int (ds.length : Nat))
  | [.str x] => if x.length ≤ 100000 then some (.int (x.length : Nat)) else none
  | [.scr ns] => some (.int (ns.length : Nat))
  | _ => none
def absF : List D → Option D
  | [.int i] => some (.int (if i < 0 then -i else i))
  | _ => none
def intF : List D → Option D
  | [.int i] => some (.int i)
  | [.bl b] => some (.int (if b then 1 else 0))
  | _ => none
def max2F : List D → Option D
  | [.int i, .int j] => some (.int (if j > i then j else i))
  | _ => none
def min2F : List D → Option D
  | [.int i, .int j] => some (.int (if j < i then j else i))
  | _ => none
def intsOf : List D → Option (List Int)
  | [] => some []
  | .int i :: ds => match intsOf ds with | some ns => some (i :: ns) | none => none
  | _ => none
def blsOf : List D → Option (List Bool)
  | [] => some []
  | .bl i :: ds => match blsOf ds with | some ns => some (i :: ns) | none => none
  | _ => none
def strsOf : List D → Option (List Str)
  | [] => some []
  | .str i :: ds => match strsOf ds with | some ns => some (i :: ns) | none => none
  | _ => none
def sumF : List D → Option D
  | [.lst ds] => match intsOf ds with | some ns => some (.int ns.sum) | none => none
  | _ => none
def anyF : List D → Option D
  | [.lst ds] => match blsOf ds with | some bs => some (.bl (bs.any id)) | none => none
  | _ => none
def allF : List D → Option D
  | [.lst ds] => match blsOf ds with | some bs => some (.bl (bs.all id)) | none => none
  | _ => none
def tupF : List D → Option D
  | [.lst ds] => some (.tup ds)
  | [.tup ds] => some (.tup ds)
  | _ => none
def listF : List D → Option D
  | [.lst ds] => some (.lst ds)
  | [.tup ds] => some (.lst ds)
  | [.scr ns] => some (.lst (ns.map D.int))
  | _ => none
def tyName : D → Option String
  | .non => some "NoneType" | .bl _ => some "bool" | .int _ => some "int" | .str _ => some "str" | .tup _ => some "tuple" | .lst _ => some "list"
  | _ => none
/-- isinstance among the built-in types that are met -/
def isiB (a b : String) : Option Bool := if b = "tuple" ∨ b = "bool" ∨ b = "str" ∨ b = "int" ∨ b = "list" then some (a == b || (a == "bool" && b == "int")) else none
def isiF : List D → Option D
  | [d, .ty b] => match tyName d with
    | some a => match isiB a b with
      | some r => some (.bl r)
      | none => none
    | none => none
  | _ => none
section
variable {K : Fg}
theorem RepBs.one {F : List Addr} {H : Hp} {xs : List V} {d : D} (h : RepBs K F H xs [d]) : ∃ x, xs = [x] ∧ RepB K F H x d := by
  cases h with | cons a b => cases b; exact ⟨_, rfl, a⟩
theorem RepBs.two {F : List Addr} {H : Hp} {xs : List V} {d e : D} (h : RepBs K F H xs [d, e]) : ∃ x y, xs = [x, y] ∧ RepB K F H x d ∧ RepB K F H y e := by
  cases h with | cons a b => cases b with | cons b c => cases c; exact ⟨_, _, rfl, a, b⟩
theorem scr_len (ns : List Int) : (ns.map V.int).length = ns.length := List.length_map ..
def rLenAll (K : Fg) : List V → Hp → VK → Prop := fun xs H Q => (∃ p ys, xs = [.ref p] ∧ (SqL K H p ys ∨ SqT K H p ys) ∧ Q (.int ys.length) H) ∨ (∃ z, xs = [.str z] ∧ z.length ≤ sizeLine ∧ Q (.int z.length) H)
theorem call_lenAll {X : Cx} : CallR X (.builtin "len") (rLenAll X.K) := call_len_seq.or call_len_str
theorem rcl_len : RCl K (rLenAll K) lenF := fun F H xs as d Q hF ra e q => by
  unfold lenF at e
  split at e
  · cases e
    obtain ⟨x, rfl, h⟩ := ra.one
    obtain ⟨p, ys, rfl, hh, r⟩ := h.lst
    refine .inl ⟨p, ys, rfl, .inl (SqL.of hh), ?_⟩
    rw [r.length]; exact q _ H (Ex.refl _) (.int _)
  · cases e
    obtain ⟨x, rfl, h⟩ := ra.one
    obtain ⟨p, ys, rfl, hh, r, _⟩ := h.tup
    refine .inl ⟨p, ys, rfl, .inr hh, ?_⟩
    rw [r.length]; exact q _ H (Ex.refl _) (.int _)
  · split at e
    · rename_i hl
      cases e
      obtain ⟨x, rfl, h⟩ := ra.one
      rw [h.str]
      exact .inr ⟨_, rfl, small hl, q _ H (Ex.refl _) (.int _)⟩
    · cases e
  · cases e
    obtain ⟨x, rfl, h⟩ := ra.one
    obtain ⟨p, rfl, hh⟩ := h.scr
    refine .inl ⟨p, _, rfl, .inl hh, ?_⟩
    rw [scr_len]; exact q _ H (Ex.refl _) (.int _)
  · cases e
theorem rcl_abs : RCl K (fun xs H Q => ∃ i, xs = [.int i] ∧ Q (.int (if i < 0 then -i else i)) H) absF := fun F H xs as d Q hF ra e q => by
  unfold absF at e
  split at e
  · cases e
    obtain ⟨x, rfl, h⟩ := ra.one
    rw [h.int]
    exact ⟨_, rfl, q _ H (Ex.refl _) (.int _)⟩
  · cases e
theorem rcl_int : RCl K (fun xs H Q => (∃ i, xs = [.int i] ∧ Q (.int i) H) ∨ ∃ k, xs = [.bl k] ∧ Q (.int (if k then 1 else 0)) H) intF := fun F H xs as d Q hF ra e q => by
  unfold intF at e
  split at e
  · cases e
    obtain ⟨x, rfl, h⟩ := ra.one
    rw [h.int]
    exact .inl ⟨_, rfl, q _ H (Ex.refl _) (.int _)⟩
  · cases e
    obtain ⟨x, rfl, h⟩ := ra.one
    rw [h.bl]
    exact .inr ⟨_, rfl, q _ H (Ex.refl _) (.int _)⟩
  · cases e
theorem rcl_max2 : RCl K (fun xs H Q => ∃ i j, xs = [.int i, .int j] ∧ Q (.int (if j > i then j else i)) H) max2F := fun F H xs as d Q hF ra e q => by
  unfold max2F at e
  split at e
  · cases e
    obtain ⟨x, y, rfl, h1, h2⟩ := ra.two
    rw [h1.int, h2.int]
    exact ⟨_, _, rfl, q _ H (Ex.refl _) (.int _)⟩
  · cases e
theorem rcl_min2 : RCl K (fun xs H Q => ∃ i j, xs = [.int i, .int j] ∧ Q (.int (if j < i then j else i)) H) min2F := fun F H xs as d Q hF ra e q => by
  unfold min2F at e
  split at e
  · cases e
    obtain ⟨x, y, rfl, h1, h2⟩ := ra.two
    rw [h1.int, h2.int]
    exact ⟨_, _, rfl, q _ H (Ex.refl _) (.int _)⟩
  · cases e
theorem ints_ok {H : Hp} : ∀ {vs : List V} {ds : List D} {ns : List Int}, Reps K H vs ds → intsOf ds = some ns → vs = ns.map V.int
  | _, _, _, .nil, e => by cases e; rfl
  | _, _, _, .cons h r, e => by
    unfold intsOf at e
    split at e
    · rename_i h0; cases h0
    · rename_i i ds he
      cases he
      split at e
      · rename_i ns hn
        cases e
        rw [h.int_inv, ints_ok r hn]; rfl
      · cases e
    · cases e
theorem bls_ok {H : Hp} : ∀ {vs : List V} {ds : List D} {ns : List Bool}, Reps K H vs ds → blsOf ds = some ns → vs = ns.map V.bl
  | _, _, _, .nil, e => by cases e; rfl
  | _, _, _, .cons h r, e => by
    unfold blsOf at e
    split at e
    · rename_i h0; cases h0
    · rename_i i ds he
      cases he
      split at e
      · rename_i ns hn
        cases e
        rw [h.bl_inv, bls_ok r hn]; rfl
      · cases e
    · cases e
theorem strs_ok {H : Hp} : ∀ {vs : List V} {ds : List D} {ns : List Str}, Reps K H vs ds → strsOf ds = some ns → vs = ns.map V.str
  | _, _, _, .nil, e => by cases e; rfl
  | _, _, _, .cons h r, e => by
    unfold strsOf at e
    split at e
    · rename_i h0; cases h0
    · rename_i i ds he
      cases he
      split at e
      · rename_i ns hn
        cases e
        rw [h.str_inv, strs_ok r hn]; rfl
      · cases e
    · cases e
theorem rcl_sum : RCl K (rSum K) sumF := fun F H xs as d Q hF ra e q => by
  unfold sumF at e
  split at e
  · split at e
    · rename_i ns hn
      cases e
      obtain ⟨x, rfl, h⟩ := ra.one
      obtain ⟨p, ys, rfl, hh, r⟩ := h.lst
      exact ⟨p, ns, rfl, by rw [← ints_ok r hn]; exact SqL.of hh, q _ H (Ex.refl _) (.int _)⟩
    · cases e
  · cases e
theorem rcl_any : RCl K (rAny K) anyF := fun F H xs as d Q hF ra e q => by
  unfold anyF at e
  split at e
  · split at e
    · rename_i ns hn
      cases e
      obtain ⟨x, rfl, h⟩ := ra.one
      obtain ⟨p, ys, rfl, hh, r⟩ := h.lst
      exact ⟨p, ns, rfl, by rw [← bls_ok r hn]; exact SqL.of hh, q _ H (Ex.refl _) (.bl _)⟩
    · cases e
  · cases e
theorem rcl_all : RCl K (rAll K) allF := fun F H xs as d Q hF ra e q => by
  unfold allF at e
  split at e
  · split at e
    · rename_i ns hn
      cases e
      obtain ⟨x, rfl, h⟩ := ra.one
      obtain ⟨p, ys, rfl, hh, r⟩ := h.lst
      exact ⟨p, ns, rfl, by rw [← bls_ok r hn]; exact SqL.of hh, q _ H (Ex.refl _) (.bl _)⟩
    · cases e
  · cases e
theorem rcl_tup : RCl K (rTupOf K) tupF := fun F H xs as d Q hF ra e q => by
  unfold tupF at e
  split at e
  · cases e
    obtain ⟨x, rfl, h⟩ := ra.one
    obtain ⟨p, ys, rfl, hh, r⟩ := h.lst
    refine ⟨p, ys, rfl, .inl ⟨SqL.of hh, fun l o hl fz => ?_⟩⟩
    obtain ⟨e1, r1⟩ := new_tup hF hl fz r
    exact q _ _ e1 r1
  · cases e
    obtain ⟨x, rfl, h⟩ := ra.one
    obtain ⟨p, ys, rfl, hh, r, f⟩ := h.tup
    exact ⟨p, ys, rfl, .inr ⟨hh, q _ H (Ex.refl _) f⟩⟩
  · cases e
/-- a new list's source -/
theorem list_src {F : List Addr} {H : Hp} {xs : List V} {as : List D} {d : D} (ra : RepBs K F H xs as) (e : listF as = some d) : ∃ p ys ds, xs = [.ref p] ∧ (SqL K H p ys ∨ SqT K H p ys) ∧ d = .lst ds ∧ Reps K (off F H) ys ds := by
  unfold listF at e
  split at e
  · cases e
    obtain ⟨x, rfl, h⟩ := ra.one
    obtain ⟨p, ys, rfl, hh, r⟩ := h.lst
    exact ⟨p, ys, _, rfl, .inl (SqL.of hh), rfl, r⟩
  · cases e
    obtain ⟨x, rfl, h⟩ := ra.one
    obtain ⟨p, ys, rfl, hh, r, f⟩ := h.tup
    exact ⟨p, ys, _, rfl, .inr hh, rfl, r⟩
  · rename_i ns
    cases e
    obtain ⟨x, rfl, h⟩ := ra.one
    obtain ⟨p, rfl, hh⟩ := h.scr
    refine ⟨p, _, _, rfl, .inl hh, rfl, ?_⟩
    clear h hh ra
    induction ns with
    | nil => exact .nil
    | cons n ns ih => exact .cons (.int n) ih
  · cases e
def rListOf (K : Fg) : List V → Hp → VK → Prop := fun xs H Q => ∃ p ys, xs = [.ref p] ∧ (SqL K H p ys ∨ SqT K H p ys) ∧ ∀ l, H l = none → Q (.ref l) (upd H l (.lst ys))
theorem simN_list {tr : TA} {as : List Arg} (ha : SimA K tr as) : SimN K (tCB (rListOf K) tr) (mCB listF as) := fun C F σ H env d env' Q rl e q => by
  unfold mCB at e
  split at e
  · rename_i x env1 h1
    split at e
    · rename_i dx hx
      split at e
      · rename_i d' hd
        cases e
        refine ha C F σ H env x env' _ rl h1 fun vs H1 r1 e1 p1 => ?_
        obtain ⟨p, ys, ds, rfl, hs, rfl, r⟩ := list_src (p1.vals r1 hx) hd
        refine ⟨p, ys, rfl, hs, fun l hl => ?_⟩
        have oc : Ex (off F H1) (off (l :: F) (upd H1 l (.lst ys))) := off_cons hl
        have hp0 : H l = none := by
          cases h0 : H l with
          | none => rfl
          | some o =>
            by_cases pF : l ∈ F
            · exact absurd pF (r1.notin hl)
            · have := e1 l o (off_some.mpr ⟨pF, h0⟩)
              rw [off_some, hl] at this
              exact absurd this.2 (by simp)
        exact q l _ hp0 (fun j b e he => r1.noslot hl he) (r1.laid hl) (e1.trans oc) ⟨ys, upd_same, r.mono oc⟩
      · cases e
    · cases e
  · cases e
theorem kitB_ok : ∀ a ∈ ["NoneType", "bool", "int", "str", "tuple", "list"], ∀ b ∈ ["tuple", "bool", "str", "int", "list"], kitB a b = isiB a b := by decide +kernel
theorem tyName_mem {d : D} {a : String} (h : tyName d = some a) : a ∈ ["NoneType", "bool", "int", "str", "tuple", "list"] := by
  cases d <;> first | (cases h; decide) | cases h
theorem rop_isi : RCl K (rIsi K) isiF := fun F H xs as d Q hF ra e q => by
  unfold isiF at e
  split at e
  · rename_i d0 b
    split at e
    · rename_i a ha
      split at e
      · rename_i r hr
        cases e
        obtain ⟨x, y, rfl, h1, h2⟩ := ra.two
        have hy : y = .ty b := by
          have := h2.full
          cases this; rfl
        subst hy
        have hb : b ∈ ["tuple", "bool", "str", "int", "list"] := by
          unfold isiB at hr
          split at hr
          · rename_i z
            rcases z with rfl | rfl | rfl | rfl | rfl <;> decide
          · cases hr
        have hk : PySem.W.kitOne K (.type a) (.type b) = some r := kit_ty ((kitB_ok a (tyName_mem ha) b hb).trans hr)
        have hty : TyX K H x (.type a) := by
          have f := h1.full
          cases d0 with
          | non => cases ha; rw [f.non_inv]; exact .base .non
          | bl _ => cases ha; rw [f.bl_inv]; exact .base (.bl _)
          | int _ => cases ha; rw [f.int_inv]; exact .base (.int _)
          | str _ => cases ha; rw [f.str_inv]; exact .base (.str _)
          | tup ds =>
            cases ha
            obtain ⟨p, xs, rfl, hs, _⟩ := h1.tup
            rcases hs with (hs | ⟨o, hs⟩) | hs
            · exact .base (.tup hs)
            · exact .fTuple hs
            · obtain ⟨o, its, n, hk, hc, _⟩ := hs
              exact .kTuple hk hc
          | lst ds =>
            cases ha
            obtain ⟨p, xs, rfl, hs, _⟩ := h1.lst
            exact .base (.lst hs)
          | _ => cases ha
        exact ⟨x, .ty b, _, _, r, rfl, .ty b, hty, hk, q _ H (Ex.refl _) (.bl _)⟩
      · cases e
    · cases e
  · cases e
/-! ### methods of texts -/
def mStrM (f : Str → List D → Option D) (o : ME) (as : List Arg) : ME := fun env => match o env with
  | some (.str a, env1) => match runArgs as env1 with
    | some (rs, env2) => match getAll env2 rs with
      | some ds => match f a ds with
        | some d => some (d, env2)
        | none => none
      | none => none
    | none => none
  | _ => none
def joinF (a : Str) (as : List D) : Option D := match as with
  | [d] => match itemsOf d with
    | some ds => match strsOf ds with
      | some ys => if (ys.map (·.length)).sum + ys.length * a.length ≤ 100000 then some (.str (Txt.join a ys)) else none
      | none => none
    | none => none
  | _ => none
def splitF (a : Str) (as : List D) : Option D := match as with
  | [.str b] => if (b.length == 0) = false ∧ a.length ≤ 100000 then some (.lst ((Txt.split a b).map D.str)) else none
  | _ => none
def RStr (K : Fg) (r : V → List V → Hp → VK → Prop) (f : Str → List D → Option D) : Prop := ∀ (F : List Addr) (H : Hp) (a : Str) (xs : List V) (as : List D) (d : D) (Q : VK), (∀ p ∈ F, ∃ o, H p = some o) → RepBs K F H xs as → f a as = some d →
  (∀ v H', Ex H H' → Rep K (off F H') v d → Q v H') → r (.str a) xs H Q
theorem strs_rep {H : Hp} : ∀ ys : List Str, Reps K H (ys.map V.str) (ys.map D.str)
  | [] => .nil
  | y :: ys => .cons (.str y) (strs_rep ys)
theorem sim_m1 {r : V → List V → Hp → VK → Prop} {f : Str → List D → Option D} {to te : TE} {mo : ME} {a : Arg} (hr : RStr K r f) (ho : SimE K to mo) (ha : SimX K te a) : SimE K (tM1 r to te) (mStrM f mo [a]) := fun C F σ H env d env' Q rl e q => by
  unfold mStrM at e
  split at e
  · rename_i x env1 h1
    split at e
    · rename_i rs env2 h2
      split at e
      · rename_i ds hds
        split at e
        · rename_i d' hd
          cases e
          refine ho C F σ H env _ env1 _ rl h1 fun v1 H1 r1 e1 p1 => ⟨⟨x, p1.str_inv⟩, ?_⟩
          have hA : SimA K (tCons te tNil) [a] := sim_cons ha sim_nil
          refine hA C F σ H1 env1 rs env' (fun vs H2 => r v1 vs H2 Q) r1 h2 fun vs H2 r2 e2 p2 => ?_
          rw [p1.str_inv]
          exact hr F H2 x vs ds d Q r2.live (p2.vals r2 hds) hd fun v H3 e3 p3 => q v H3 (r2.grow e3) ((e1.trans e2).trans (off_mono e3)) p3
        · cases e
      · cases e
    · cases e
  · cases e
def rJoin (K : Fg) : V → List V → Hp → VK → Prop := fun x xs H Q => ∃ a p, ∃ ys : List Str, x = .str a ∧ xs = [.ref p] ∧ (SqL K H p (ys.map V.str) ∨ SqT K H p (ys.map V.str)) ∧ (ys.map (·.length)).sum + ys.length * a.length ≤ 16777216 ∧ Q (.str (Txt.join a ys)) H
def rSplit : V → List V → Hp → VK → Prop := fun x xs H Q => ∃ a b, x = .str a ∧ xs = [.str b] ∧ (b.length == 0) = false ∧ a.length + 2 ≤ sizeLine ∧ rNewStrs (Txt.split a b) H Q
theorem rstr_join : RStr K (rJoin K) joinF := fun F H a xs as d Q hF ra e q => by
  unfold joinF at e
  split at e
  · split at e
    · rename_i ds hds
      split at e
      · rename_i ys hys
        split at e
        · rename_i hl
          cases e
          obtain ⟨x, rfl, h⟩ := ra.one
          obtain ⟨p, vs, rfl, hs, r⟩ := h.items hds
          rw [strs_ok r hys] at hs
          exact ⟨a, p, ys, rfl, rfl, hs, Nat.le_trans hl (by decide), q _ H (Ex.refl _) (.str _)⟩
        · cases e
      · cases e
    · cases e
  · cases e
theorem rstr_split : RStr K rSplit splitF := fun F H a xs as d Q hF ra e q => by
  unfold splitF at e
  split at e
  · split at e
    · rename_i hl
      cases e
      obtain ⟨x, rfl, h⟩ := ra.one
      rw [h.str]
      refine ⟨a, _, rfl, rfl, hl.1, Nat.le_trans (Nat.add_le_add_right hl.2 2) (by decide), fun p hp => ?_⟩
      obtain ⟨e1, r1⟩ := new_lst hF hp (strs_rep _)
      exact q _ _ e1 r1
    · cases e
  · cases e
/-! ### a tuple's index of a text, of a whole number -/
/-- the first place where it stands -/
def findD (a : D) : List D → Option Nat
  | [] => none
  | d :: ds => if eqF d a = true then some 0 else match findD a ds with | some k => some (k + 1) | none => none
/-! ### one's own lists -/
/-- o.m(..) upon the list of slot i -/
def mMut (f : D → List D → Option (D × D)) (i : Nat) (as : List Arg) : ME := fun env => match env[i]? with
  | some (.own _ (.lst _)) => match runArgs as env with
    | some (rs, env1) => match env1[i]? with
      | some (.own b d0) => match getAllV env1 rs with
        | some ds => match f d0 ds with
          | some (r, d1) => some (r, env1.set i (.own b d1))
          | none => none
        | none => none
      | _ => none
    | none => none
  | _ => none
/-- a change: from the list's content and the operands, the answer and the new content -/
def RMut (K : Fg) (r : V → List V → Hp → VK → Prop) (f : D → List D → Option (D × D)) : Prop := ∀ (F : List Addr) (H : Hp) (p : Addr) (d0 : D) (xs : List V) (as : List D) (res d1 : D) (Q : VK), p ∈ F → OwnAt K F H p d0 → Reps K (off F H) xs as → f d0 as = some (res, d1) →
  (∀ v o, Rep K (off F H) v res → OwnAt K F (upd H p o) p d1 → Q v (upd H p o)) → r (.ref p) xs H Q
theorem own_list {F : List Addr} {H : Hp} {p : Addr} {ds : List D} (h : OwnAt K F H p (.lst ds)) : ∃ xs, H p = some (.lst xs) ∧ Reps K (off F H) xs ds := h
theorem own_put {F : List Addr} {H : Hp} {p : Addr} {zs : List V} {ds : List D} (hp : p ∈ F) (r : Reps K (off F H) zs ds) : OwnAt K F (upd H p (.lst zs)) p (.lst ds) := ⟨zs, upd_same, by rw [off_upd hp]; exact r⟩
theorem sim_mut {r : V → List V → Hp → VK → Prop} {f : D → List D → Option (D × D)} {i : Nat} {tr : TA} {as : List Arg} (hr : RMut K r f) (ha : SimA K tr as) : SimE K (tBM K "list" r (tVar i) tr) (mMut f i as) := fun C F σ H env d env' Q rl e q => by
  unfold mMut at e
  split at e
  · rename_i b0 ds0 hi0
    obtain ⟨p0, hv, _, o0, _⟩ := rl.owns i b0 _ hi0
    split at e
    · rename_i rs env1 h1
      split at e
      · rename_i b d0 hi
        split at e
        · rename_i ds h2
          split at e
          · rename_i res d1 h3
            cases e
            refine ⟨_, hv, ?_⟩
            obtain ⟨xs0, hx0, _⟩ := own_list o0
            refine ⟨.inl ⟨rfl, xs0, SqL.of hx0⟩, ?_⟩
            refine ha C F σ H env rs env1 _ rl h1 fun vs H1 r1 e1 p1 => ?_
            obtain ⟨p, s1, pF, oa, _, _⟩ := r1.owns i b d0 hi
            have ep : p0 = p := by rw [hv] at s1; cases s1; rfl
            subst ep
            refine hr F H1 p0 d0 vs ds d d1 Q pF oa (p1.reps r1 h2) h3 fun v o hv2 ho => ?_
            have eo : off F (upd H1 p0 o) = off F H1 := off_upd pF
            exact q v _ (r1.mut hi hv ho) (by rw [eo]; exact e1) (by rw [eo]; exact hv2)
          · cases e
        · cases e
      · cases e
    · cases e
  · cases e
theorem sim_mut0 {r : V → List V → Hp → VK → Prop} {f : D → List D → Option (D × D)} {i : Nat} (hr : RMut K r f) : SimE K (tBM0 K "list" r (tVar i)) (mMut f i []) := fun C F σ H env d env' Q rl e q => by
  have h := sim_mut hr (i := i) sim_nil C F σ H env d env' Q rl e q
  exact h
def appF (d : D) (as : List D) : Option (D × D) := match d, as with
  | .lst ds, [a] => if ds.length < 100000 then some (.non, .lst (ds ++ [a])) else none
  | _, _ => none
def popF (d : D) (as : List D) : Option (D × D) := match d, as with
  | .lst ds, [] => match ds[ds.length - 1]? with | some y => some (y, .lst ds.dropLast) | none => none
  | _, _ => none
def popAtF (d : D) (as : List D) : Option (D × D) := match d, as with
  | .lst ds, [.int i] => if 0 ≤ i ∧ i < 100000 then match ds[i.toNat]? with | some y => some (y, .lst (ds.eraseIdx i.toNat)) | none => none else none
  | _, _ => none
def revF (d : D) (as : List D) : Option (D × D) := match d, as with
  | .lst ds, [] => some (.non, .lst ds.reverse)
  | _, _ => none
def insF (d : D) (as : List D) : Option (D × D) := match d, as with
  | .lst ds, [.int i, a] => if ds.length < 100000 ∧ 0 ≤ i ∧ i < 100000 then some (.non, .lst (ds.take i.toNat ++ [a] ++ ds.drop i.toNat)) else none
  | _, _ => none
theorem Reps.one {H : Hp} {xs : List V} {d : D} (h : Reps K H xs [d]) : ∃ x, xs = [x] ∧ Rep K H x d := by
  cases h with | cons a b => cases b; exact ⟨_, rfl, a⟩
theorem Reps.two {H : Hp} {xs : List V} {d e : D} (h : Reps K H xs [d, e]) : ∃ x y, xs = [x, y] ∧ Rep K H x d ∧ Rep K H y e := by
  cases h with | cons a b => cases b with | cons b c => cases c; exact ⟨_, _, rfl, a, b⟩
theorem Reps.none' {H : Hp} {xs : List V} (h : Reps K H xs []) : xs = [] := by cases h; rfl
theorem Reps.dropLast {H : Hp} {vs : List V} {ds : List D} (r : Reps K H vs ds) : Reps K H vs.dropLast ds.dropLast := by
  rw [List.dropLast_eq_take, List.dropLast_eq_take, r.length]; exact r.take _
theorem rmut_app : RMut K rAppend appF := fun F H p d0 xs as res d1 Q pF oa ra e q => by
  unfold appF at e
  split at e
  · split at e
    · rename_i hl
      cases e
      obtain ⟨x, rfl, hx⟩ := ra.one
      obtain ⟨ys, hy, ry⟩ := own_list oa
      exact ⟨p, ys, x, rfl, rfl, hy, Nat.lt_of_lt_of_le (by rw [ry.length]; exact hl) (by decide), q .non _ .non (own_put pF (ry.append (.cons hx .nil)))⟩
    · cases e
  · cases e
theorem rmut_pop : RMut K rPop popF := fun F H p d0 xs as res d1 Q pF oa ra e q => by
  unfold popF at e
  split at e
  · split at e
    · rename_i y hy'
      cases e
      cases ra.none'
      obtain ⟨ys, hy, ry⟩ := own_list oa
      obtain ⟨v, hv, rv⟩ := ry.get hy'
      exact ⟨p, ys, v, rfl, rfl, hy, by rw [ry.length]; exact hv, q v _ rv (own_put pF ry.dropLast)⟩
    · cases e
  · cases e
theorem seqIx {i : Int} {n : Nat} (h0 : 0 ≤ i) (hn : i.toNat < n) : seqIndex? i n = some i.toNat := by
  unfold seqIndex?
  first
    | (simp only []; split <;> rename_i h <;> first | (congr 1; omega) | omega)
    | (split <;> first | (congr 1; omega) | omega)
    | (simp; omega)
theorem rmut_popAt : RMut K rPopAt popAtF := fun F H p d0 xs as res d1 Q pF oa ra e q => by
  unfold popAtF at e
  split at e
  · rename_i ds i
    split at e
    · rename_i hb
      split at e
      · rename_i y hy'
        cases e
        obtain ⟨x, rfl, hx⟩ := ra.one
        rw [hx.int_inv]
        obtain ⟨ys, hy, ry⟩ := own_list oa
        obtain ⟨v, hv, rv⟩ := ry.get hy'
        have hlt : i.toNat < ys.length := (List.getElem?_eq_some_iff.mp hv).1
        exact ⟨p, ys, i, i.toNat, v, rfl, rfl, hy, by omega, by omega, seqIx hb.1 hlt, hv, q v _ rv (own_put pF (ry.erase _))⟩
      · cases e
    · cases e
  · cases e
theorem rmut_rev : RMut K rReverse revF := fun F H p d0 xs as res d1 Q pF oa ra e q => by
  unfold revF at e
  split at e
  · cases e
    cases ra.none'
    obtain ⟨ys, hy, ry⟩ := own_list oa
    exact ⟨p, ys, rfl, rfl, hy, q .non _ .non (own_put pF ry.reverse)⟩
  · cases e
end
/-! ### o[i] = e upon one's own list -/
def setF (d : D) (i a : D) : Option D := match d, i with
  | .lst ds, .int k => match ixN ds.length k with | some j => some (.lst (ds.set j a)) | none => none
  | _, _ => none
def mSet (i : Nat) (mi mv : ME) : MS := fun env => match mv env with
  | some (dv, env1) => match env1[i]? with
    | some (.own _ _) => match mi env1 with
      | some (di, env2) => match env2[i]? with
        | some (.own b d0) => match setF d0 di dv with
          | some d1 => some (.nx, env2.set i (.own b d1))
          | none => none
        | _ => none
      | none => none
    | _ => none
  | none => none
theorem simS_set {K : Fg} {i : Nat} {ti tv : TE} {mi mv : ME} (hi : SimE K ti mi) (hv : SimE K tv mv) : SimS K (tAsg tv (gSub (tVar i) ti rSetL)) (mSet i mi mv) := fun C F σ H env fl env' D r e q => by
  unfold mSet at e
  split at e
  · rename_i dv env1 h1
    split at e
    · rename_i b0 d00 hs0
      split at e
      · rename_i di env2 h2
        split at e
        · rename_i b d0 hs
          split at e
          · rename_i d1 h3
            cases e
            refine hv C F σ H env dv env1 _ r h1 fun v1 H1 r1 e1 p1 => ?_
            obtain ⟨p0, hp0, _⟩ := r1.owns i b0 d00 hs0
            refine ⟨_, hp0, ?_⟩
            refine hi C F σ H1 env1 di env2 _ r1 h2 fun v2 H2 r2 e2 p2 => ?_
            obtain ⟨p, s1, pF, oa, _, _⟩ := r2.owns i b d0 hs
            have ep : p0 = p := by rw [hp0] at s1; cases s1; rfl
            subst ep
            unfold setF at h3
            split at h3
            · rename_i ds k
              split at h3
              · rename_i j hj
                cases h3
                obtain ⟨ys, hy, ry⟩ := own_list oa
                refine ⟨p0, ys, k, j, rfl, p2.int_inv, hy, by rw [ry.length]; exact hj, ?_⟩
                have eo : off F (upd H2 p0 (.lst (ys.set j v1))) = off F H2 := off_upd pF
                exact q F σ _ (r2.mut hs hp0 (own_put pF (ry.set (p1.mono e2) j))) (by rw [eo]; exact e1.trans e2)
              · cases h3
            · cases h3
          · cases e
        · cases e
      · cases e
    · cases e
  · cases e
end Mir
/-! enumerate and zip over lists and tuples in any mix, a list or a tuple walked. -/
namespace Mir
open PySem PySem.Spec PyProof.Rows L2
inductive SK where | l | t
def SqK (K : Fg) : SK → Hp → Addr → List V → Prop
  | .l, H, a, xs => SqL K H a xs
  | .t, H, a, xs => SqT K H a xs
def IterOf : SK → Heap → Addr → Addr → Nat → Prop
  | .l, h, it, a, i => h.IsListIter it a i
  | .t, h, it, a, i => h.IsTupleIter it a i
def SeqOf : SK → Heap → Addr → Array Value → Prop
  | .l, h, a, xs => h.IsList a xs
  | .t, h, a, xs => h.IsTuple a xs
def itCls : SK → String
  | .l => "list_iterator"
  | .t => "tuple_iterator"
def itObj (k : SK) (a : Addr) : Obj := { cls := .type (itCls k), data := .fields #[.ref a, .int 0 0] }
theorem IterOf.obj {k : SK} {h : Heap} {it a : Addr} {i : Nat} (x : IterOf k h it a i) : ∃ o, h.get? it = some o ∧ o.cls = .type (itCls k) ∧ o.data = .fields #[.ref a, .int i 0] := by
  cases k with
  | l => exact x
  | t => exact x
theorem IterOf.at {k : SK} {h h' : Heap} {it a : Addr} {i : Nat} (x : IterOf k h it a i) (q : ∀ o, h.get? it = some o → h'.get? it = some o) : IterOf k h' it a i := by
  cases k with
  | l => exact Heap.IsListIter.at x q
  | t => exact Heap.IsTupleIter.at x q
theorem IterOf.new {k : SK} {h : Heap} {it a : Addr} (e : h.get? it = some (itObj k a)) : IterOf k h it a 0 := by
  cases k with
  | l => exact ⟨_, e, rfl, rfl⟩
  | t => exact ⟨_, e, rfl, rfl⟩
theorem begins_seq (k : SK) (a : Addr) (items : Array Value) : Begins (.ref a) (itObj k a) fun h => SeqOf k h a items := by
  cases k with
  | l => exact begins_list a items
  | t => exact begins_tuple a items
theorem draws_seq {prog : Program} {w : World} {A : Around} (hh : A.handled = none) (k : SK) (it a : Addr) (hne : a ≠ it) (items : Array Value) :
    Draws prog w A it [it, a] items.size (fun i v => items[i]? = some v) (fun i h => IterOf k h it a i ∧ SeqOf k h a items) := by
  cases k with
  | l => exact Draws.list hh it a hne items
  | t => exact Draws.tuple hh it a hne items
theorem Inv.seq {X : Cx} {pins : List (Addr × Obj)} {σ : L2.St} {H : Hp} {s : Shared} {k : SK} {a : Addr} {xs : List V} (I : Inv X pins σ H s) (h : SqK X.K k H a xs) : ∃ its : List Value, Vals xs its ∧ SeqOf k s.heap a its.toArray ∧ xs.length ≤ sizeLine := by
  cases k with
  | l => obtain ⟨its, r, p, z⟩ := I.list h; exact ⟨its, r, p.isList, z⟩
  | t => obtain ⟨its, r, p, z⟩ := I.tuple h; exact ⟨its, r, p, z⟩
theorem Inv.seq_inj {X : Cx} {pins : List (Addr × Obj)} {σ : L2.St} {H : Hp} {s : Shared} {k : SK} {a : Addr} {xs ys : List V} (I : Inv X pins σ H s) (h : SqK X.K k H a xs) (h' : SqK X.K k H a ys) : xs = ys := by
  cases k with
  | l => exact I.list_inj h h'
  | t => exact I.tuple_inj h h'
theorem SeqOf.apart {k : SK} {k' : SK} {h : Heap} {a it b : Addr} {xs : Array Value} {i : Nat} (x : SeqOf k h a xs) (y : IterOf k' h it b i) : a ≠ it := fun e => by
  subst e
  obtain ⟨o, ho, hc, _⟩ := y.obj
  cases k with
  | l =>
    obtain ⟨o', ho', hc', _⟩ := x
    rw [ho] at ho'; cases ho'
    rw [hc] at hc'
    cases k' <;> exact absurd (Value.type.inj hc') (by decide)
  | t =>
    obtain ⟨o', ho', hc', _⟩ := x
    rw [ho] at ho'; cases ho'
    rw [hc] at hc'
    cases k' <;> exact absurd (Value.type.inj hc') (by decide)
theorem SeqOf.lt {k : SK} {h : Heap} {a : Addr} {xs : Array Value} (x : SeqOf k h a xs) : a < h.objs.size := by
  cases k with
  | l => obtain ⟨o, e, _⟩ := x; exact Heap.lt_size e
  | t => obtain ⟨o, e, _⟩ := x; exact Heap.lt_size e
theorem SeqOf.enum_ne {k : SK} {h : Heap} {a e it : Addr} {xs : Array Value} {c : Int} {old : Value} (x : SeqOf k h a xs) (y : IsEnum h e it c old) : a ≠ e := fun z => by
  subst z
  cases k with
  | l =>
    obtain ⟨o', ho', hc', _⟩ := x
    have y' := y
    unfold IsEnum at y'
    rw [ho'] at y'; cases y'
    exact absurd (Value.type.inj hc') (by decide)
  | t =>
    obtain ⟨o', ho', hc', _⟩ := x
    have y' := y
    unfold IsEnum at y'
    rw [ho'] at y'; cases y'
    exact absurd (Value.type.inj hc') (by decide)
/-- the list or tuple at a as it stands at each turn, each item in a new pair -/
def IteK (K : Fg) (k : SK) (a : Addr) : It :=
  ⟨fun i H => ∃ (xs : List V) (x : V), SqK K k H a xs ∧ xs[i]? = some x, fun i H v H' => ∃ T o x, v = .ref T ∧ H T = none ∧ FzT o ∧ H' = upd H T (.frz o (.tup [.int (i : Nat), x])) ∧ ∀ xs, SqK K k H a xs → xs[i]? = some x, fun i H => ∃ xs : List V, SqK K k H a xs ∧ xs.length = i⟩
theorem turn_enumK {P : Program} {w : World} {K : Fg} {elts : List Expr} {kk : Nat} {tpos : Pos} (k : SK) (a e it : Addr) :
    Turn P w K (.Tuple elts kk tpos) (IteK K k a) [e, it] e (fun i h => (∃ old, IsEnum h e it ((i : Nat) : Int) old) ∧ IterOf k h it a i ∧ e ≠ it) where
  mem := by simp
  obj := fun i h st b hb => by
    obtain ⟨⟨old, he⟩, hit, _⟩ := st
    obtain ⟨o, ho, hc, hd⟩ := hit.obj
    have e' : b = e ∨ b = it := by simpa using hb
    rcases e' with z | z
    · rw [z]; exact ⟨_, he, fun v q => nomatch q⟩
    · rw [z]; exact ⟨o, ho, fun v q => by rw [hd] at q; cases q⟩
  keep := fun i h h' st k => let ⟨⟨old, he⟩, hi, hne⟩ := st; ⟨⟨old, k e (by simp) _ he⟩, hi.at fun o q => k it (by simp) o q, hne⟩
  item := by
    intro X hP hw hK hc i pins s σ H E I hf st hg
    subst hP hw hK
    obtain ⟨⟨old, he⟩, hit, hne⟩ := st
    obtain ⟨xs, x, hq, hx⟩ := hg
    obtain ⟨its, rv, p, hz⟩ := Inv.seq I hq
    obtain ⟨u, hu, ru⟩ := rv.get hx
    have hel : e < s.heap.objs.size := Heap.lt_size he
    have hil : it < s.heap.objs.size := by obtain ⟨_, q, _⟩ := hit.obj; exact Heap.lt_size q
    have hai : a ≠ it := p.apart hit
    have D := draws_seq (prog := X.prog) (w := X.w) (A := X.A.in1) (I.ok.hd hc) k it a hai its.toArray
    have hlt : i < its.toArray.size := by
      have := (List.getElem?_eq_some_iff.mp hu).1
      simpa using this
    have hea : a ≠ e := p.enum_ne he
    refine wpAny_pyNext_enum_itemC D he ⟨hit, p⟩ hlt hne (by simp [hne, Ne.symm hea]) fun u' h' tk hP' ho st' hT hsz hk => ?_
    have eu : u' = u := by
      have h1 : its.toArray[i]? = some u' := hP'
      have h2 : its.toArray[i]? = some u := by simpa using hu
      rw [h1] at h2; cases h2; rfl
    subst eu
    refine ⟨_, rfl, wpAny_letOwnedTupleGo_enum (s := { s with heap := h', toks := tk + 1 }) ho fun h'' he' sb => ?_⟩
    have hT2 : h''.get? s.heap.objs.size = some { cls := .type "tuple", data := .seq #[.int i tk, u'] } := (sb.2 _ (Nat.ne_of_gt hel)).trans hT
    have new : ObjOk X.prog X.w (upd H s.heap.objs.size (.frz { cls := .type "tuple", data := .seq #[.int i tk, u'] } (.tup [.int (i : Nat), x]))) h'' s.heap.objs.size (.frz { cls := .type "tuple", data := .seq #[.int i tk, u'] } (.tup [.int (i : Nat), x])) :=
      ⟨hT2, by show 2 ≤ sizeLine; decide, [.int i tk, u'], .cons ⟨_, rfl⟩ (.cons ru .nil), ⟨_, hT2, rfl, _, rfl⟩⟩
    have I1 : Inv X pins σ (upd H s.heap.objs.size (.frz { cls := .type "tuple", data := .seq #[.int i tk, u'] } (.tup [.int (i : Nat), x]))) { s with heap := h'', toks := tk + 1 } :=
      I.turnedNew (ch := [e, it]) (fun b ob hb q => (sb.2 b (fun z => hb (by simp [z]))).trans (hk b ob (fun z => hb (by simp [z])) (fun z => hb (by simp [z])) q)) hf (Nat.le_refl _) new
    refine ⟨.ref s.heap.objs.size, _, I1, rfl, ⟨_, _, x, rfl, I.hok.fresh (Nat.le_refl _), ⟨rfl, rfl⟩, rfl, fun ys hy => by rw [Inv.seq_inj I hy hq]; exact hx⟩, ⟨⟨u', ?_⟩, st'.1.at fun o q => (sb.2 it (Ne.symm hne)).trans q, hne⟩, fun b hb => ?_⟩
    · have e1 : ((i + 1 : Nat) : Int) = (i : Int) + 1 := by omega
      rw [e1]; exact he'
    · have hb' : b < s.heap.objs.size := by
        have e' : b = e ∨ b = it := by simpa using hb
        rcases e' with z | z
        · rw [z]; exact hel
        · rw [z]; exact hil
      rw [upd_ne (Nat.ne_of_lt hb')]
      exact (hf b hb).1
  done := by
    intro X hP hw hK hc i pins s σ H E I hf st hg
    subst hP hw hK
    obtain ⟨⟨old, he⟩, hit, hne⟩ := st
    obtain ⟨xs, hq, hx⟩ := hg
    obtain ⟨its, rv, p, hz⟩ := Inv.seq I hq
    obtain ⟨f0, f1, f2, f3, f4, f5⟩ := hf it (by simp)
    have hl := rv.length
    have hai : a ≠ it := p.apart hit
    have D := draws_seq (prog := X.prog) (w := X.w) (A := X.A.in1) (I.ok.hd hc) k it a hai its.toArray
    have hn : i = its.toArray.size := by simp; omega
    rw [hn] at hit
    exact wpAny_pyNext_enum_endD D he ⟨hit, p⟩ fun h' eb => ⟨rfl, I.turned (t' := s.toks) (fun b o hb q => eb b o hb q) f0 f1 f3 f4 f5⟩
  self := fun A i s Q E st h => let ⟨⟨_, he⟩, _⟩ := st; wpAny_pyIter_enum he h
set_option maxHeartbeats 1000000 in
theorem meets_enumerate_newB1 {v : Value} {o : Obj} {H : Heap → Prop} (B : Begins v o H) :
    Meets (Builtin.«enumerate.__new__» ⟨[.type "enumerate", v], []⟩) (fun _ R s => H s.heap ∧
      R (.ok (.ret (.ref (s.heap.push o).objs.size))) { s with heap := (s.heap.push o).push { cls := .type "enumerate", data := .fields #[.none, .bool false, .ref s.heap.objs.size, rawInt 0, .none, .none] } }) :=
  .of_wp fun prog w A R s h => by
    obtain ⟨hp, g, d, tk, os⟩ := s; obtain ⟨h1, h⟩ := h
    have hsub := sub_enumerate
    have q1 : ∀ {A' : Around} {E : Value → Shared → Prop} {Q : Value → Shared → Prop}, Q (.ref hp.objs.size) ⟨hp.push o, g, d, tk, os⟩ → wpAny (model prog w) A' (pyIter v) Q E ⟨hp, g, d, tk, os⟩ :=
      fun q => B.iter prog w _ _ ⟨hp, g, d, tk, os⟩ _ h1 q
    wp_walk using q1
    refine wpAny_stack_any fun st => wpAny_pure ?_
    split
    · rename_i c _ _ _ _ _
      cases (c == Value.type "enumerate")
      · wp_walk using q1
        exact ⟨_, rfl, h⟩
      · wp_walk using q1
        exact ⟨_, rfl, h⟩
    · wp_walk using q1
      exact ⟨_, rfl, h⟩
section
variable {prog : Program} {w : World} {A : Around} {E : Value → Shared → Prop} {s : Shared}
theorem call_enumK {k : SK} {a : Addr} {items : Array Value} {Q : Value → Shared → Prop} (hL : SeqOf k s.heap a items)
    (h : ∀ h', IsEnum h' (s.heap.objs.size + 1) s.heap.objs.size 0 .none → IterOf k h' s.heap.objs.size a 0 → h'.objs.size = s.heap.objs.size + 2 →
      (∀ b o, s.heap.get? b = some o → h'.get? b = some o) → Q (.ref (s.heap.objs.size + 1)) { s with heap := h' }) :
    wpAny (model prog w) A (call (.type "enumerate") [.ref a]) Q E s := by
  have B := begins_seq k a items
  refine callType_new F.called_enumerate (by decide) (F.typeCall_enumerate_1 _) (F.newCall_enumerate_1 _) (fun obj => F.args_object_init_2 obj _) F.entry_enumerate_new
    (meets_enumerate_newB1 B) ⟨hL, ?_⟩
  have hz : (s.heap.push (itObj k a)).objs.size = s.heap.objs.size + 1 := Heap.size_push ..
  show _ ∧ _
  rw [hz]
  have he : IsEnum ((s.heap.push (itObj k a)).push { cls := .type "enumerate", data := .fields #[.none, .bool false, .ref s.heap.objs.size, rawInt 0, .none, .none] }) (s.heap.objs.size + 1) s.heap.objs.size 0 .none := by
    have := Heap.get?_push_size (s.heap.push (itObj k a)) (o := { cls := .type "enumerate", data := .fields #[.none, .bool false, .ref s.heap.objs.size, rawInt 0, .none, .none] }) rfl
    rw [hz] at this; exact this
  refine ⟨⟨_, he, rfl⟩, h _ he (IterOf.new (Heap.get?_push_of_some _ (Heap.get?_push_size _ B.free))) (by rw [Heap.size_push, hz]) fun b o x => Heap.get?_push_of_some _ (Heap.get?_push_of_some _ x)⟩
end
def iEnumK (K : Fg) (ta : TA) : TI := fun σ H R => ta σ H fun vs H1 => ∃ k a xs, vs = [.ref a] ∧ SqK K k H1 a xs ∧ R (IteK K k a) H1
theorem pi_enumK {X : Cx} {e : Expr} {ta : TA} {p pos tpos : Pos} {elts : List Expr} {kk : Nat} (hg : Gl X "enumerate") (hm : X.mg "enumerate" = none) (ha : PA X [e] ta) (hs : starEach [e] X.env = [(false, eval e X.env)] := by rfl) :
    PI X (.Tuple elts kk tpos) (.Call (.Name "enumerate" p) [e] [] pos) (iEnumK X.K ta) := by
  refine ⟨fun pins s σ H R I h => ?_⟩
  refine Call_ (ld_blt I hg hm boot_enumerate (PyProof.Rows.callWith_type1 (thn (ha.run pos pins s σ H _ I h) fun us s1 ⟨vs, H1, I1, r1, q1⟩ => ?_) hs rfl))
  obtain ⟨k, a, xs, ex, hq, q⟩ := q1
  subst ex
  cases r1 with
  | cons r rr =>
    cases rr
    cases r
    obtain ⟨its, rv, p', hz⟩ := Inv.seq I1 hq
    refine call_enumK p' fun h' he hit hsz hk => wpAny_pyIter_enum he ?_
    have I2 : Inv X pins σ H1 { s1 with heap := h' } := I1.kept (t' := s1.toks) hk
    refine ⟨s1.heap.objs.size + 1, [s1.heap.objs.size + 1, s1.heap.objs.size], _, _, H1, rfl, I2, turn_enumK k a (s1.heap.objs.size + 1) s1.heap.objs.size, ⟨⟨.none, he⟩, hit, Nat.succ_ne_self _⟩, fun b hb => ?_, q⟩
    have e' : b = s1.heap.objs.size + 1 ∨ b = s1.heap.objs.size := by simpa using hb
    have hle : s1.heap.objs.size ≤ b := by
      rcases e' with z | z
      · rw [z]; exact Nat.le_add_right _ _
      · rw [z]; exact Nat.le_refl _
    exact I1.fpOk hle (I1.hok.fresh hle)
def YPairF (xs ys : Nat → Option V) : Nat → Hp → V → Hp → Prop := fun i H v H' => ∃ T o x y, v = .ref T ∧ H T = none ∧ FzT o ∧ H' = upd H T (.frz o (.tup [x, y])) ∧ xs i = some x ∧ ys i = some y
theorem walk_enumK {K : Fg} {k : SK} {a : Addr} {xs : List V} : L2.Walk (IteK K k a) xs.length (fun H => SqK K k H a xs) (YPairF (fun i => some (.int (i : Nat))) (fun i => xs[i]?)) := by
  refine ⟨fun i _ hi q => ⟨xs, xs[i], q, by simp [hi]⟩, fun _ q => ⟨xs, q, rfl⟩, fun i H v H' _ q y => ?_⟩
  obtain ⟨T, o, x, h1, h2, fz, h3, h4⟩ := y
  exact ⟨T, o, .int (i : Nat), x, h1, h2, fz, h3, rfl, h4 xs q⟩
/-! ### zip -/
def ItzK (K : Fg) (k k' : SK) (a b : Addr) : It :=
  ⟨fun i H => ∃ (xs ys : List V) (x y : V), SqK K k H a xs ∧ SqK K k' H b ys ∧ xs[i]? = some x ∧ ys[i]? = some y,
    fun i H v H' => ∃ T o x y, v = .ref T ∧ H T = none ∧ FzT o ∧ H' = upd H T (.frz o (.tup [x, y])) ∧ (∀ xs, SqK K k H a xs → xs[i]? = some x) ∧ ∀ ys, SqK K k' H b ys → ys[i]? = some y,
    fun i H => ∃ xs ys : List V, SqK K k H a xs ∧ SqK K k' H b ys ∧ i ≤ xs.length ∧ i ≤ ys.length ∧ (xs.length = i ∨ ys.length = i)⟩
theorem notZip {h : Heap} {c : Addr} {k : SK} {xs : Array Value} {z TI TO : Addr} {u : Value} (x : SeqOf k h c xs) (y : IsZip h c TI TO u) : False := by
  cases k with
  | l =>
    obtain ⟨o', ho', hc', _⟩ := x
    have y' := y
    unfold IsZip at y'
    rw [ho'] at y'; cases y'
    exact absurd (Value.type.inj hc') (by decide)
  | t =>
    obtain ⟨o', ho', hc', _⟩ := x
    have y' := y
    unfold IsZip at y'
    rw [ho'] at y'; cases y'
    exact absurd (Value.type.inj hc') (by decide)
/-- the cells apart, the sources beside them -/
structure ZApart (z TI TO i1 i2 : Addr) : Prop where
  TIz : TI ≠ z
  TOz : TO ≠ z
  TITO : TI ≠ TO
  TIi1 : TI ≠ i1
  TIi2 : TI ≠ i2
  zi1 : z ≠ i1
  zi2 : z ≠ i2
  TOi1 : TO ≠ i1
  TOi2 : TO ≠ i2
  i12 : i1 ≠ i2
theorem turn_zipK {P : Program} {w : World} {K : Fg} {elts : List Expr} {kk : Nat} {tpos : Pos} {k k' : SK} {a b z TI TO i1 i2 : Addr} (D : ZApart z TI TO i1 i2) (haT : a ≠ TO) (hbT : b ≠ TO) :
    Turn P w K (.Tuple elts kk tpos) (ItzK K k k' a b) [z, TI, TO, i1, i2] z (fun i h => IsZip h z TI TO .none ∧ IsPair h TI (.ref i1) (.ref i2) ∧ (∃ x y, IsPair h TO x y) ∧ IterOf k h i1 a i ∧ IterOf k' h i2 b i) where
  mem := by simp
  obj := fun i h st c hc => by
    obtain ⟨hz, hTI, ⟨x, y, hTO⟩, h1, h2⟩ := st
    obtain ⟨o1, e1, _, d1⟩ := h1.obj
    obtain ⟨o2, e2, _, d2⟩ := h2.obj
    have e' : c = z ∨ c = TI ∨ c = TO ∨ c = i1 ∨ c = i2 := by simpa using hc
    rcases e' with q | q | q | q | q
    · rw [q]; exact ⟨_, hz, fun v q => nomatch q⟩
    · rw [q]; exact ⟨_, hTI, fun v q => nomatch q⟩
    · rw [q]; exact ⟨_, hTO, fun v q => nomatch q⟩
    · rw [q]; exact ⟨o1, e1, fun v q => by rw [d1] at q; cases q⟩
    · rw [q]; exact ⟨o2, e2, fun v q => by rw [d2] at q; cases q⟩
  keep := fun i h h' st k => by
    obtain ⟨hz, hTI, ⟨x, y, hTO⟩, h1, h2⟩ := st
    exact ⟨k z (by simp) _ hz, k TI (by simp) _ hTI, ⟨x, y, k TO (by simp) _ hTO⟩, h1.at fun o q => k i1 (by simp) o q, h2.at fun o q => k i2 (by simp) o q⟩
  item := by
    intro X hP hw hK hc i pins s σ H E I hf st hg
    subst hP hw hK
    obtain ⟨hz, hTI, ⟨x0, y0, hTO⟩, h1, h2⟩ := st
    obtain ⟨xs, ys, x, y, hqx, hqy, hx, hy⟩ := hg
    obtain ⟨its, rv, p, _⟩ := Inv.seq I hqx
    obtain ⟨its2, rv2, p2, _⟩ := Inv.seq I hqy
    obtain ⟨u, hu, ru⟩ := rv.get hx
    obtain ⟨u2, hu2, ru2⟩ := rv2.get hy
    have hzl : z < s.heap.objs.size := Heap.lt_size hz
    have az : a ≠ z := fun e => notZip (z := z) p (e ▸ hz)
    have bz : b ≠ z := fun e => notZip (z := z) p2 (e ▸ hz)
    have D1 := draws_seq (prog := X.prog) (w := X.w) (A := X.A.in1) (I.ok.hd hc) k i1 a (p.apart h1) its.toArray
    have D2 := draws_seq (prog := X.prog) (w := X.w) (A := X.A.in1) (I.ok.hd hc) k' i2 b (p2.apart h2) its2.toArray
    have S : ZipSep2 z TI TO i1 i2 [i1, a] [i2, b] :=
      { TIz := D.TIz, TOz := D.TOz, TITO := D.TITO, TIi1 := D.TIi1, mem1 := by simp, zf1 := by simp [D.zi1, Ne.symm az], Tf1 := by simp [D.TOi1, Ne.symm haT],
        TIi2 := D.TIi2, mem2 := by simp, zf2 := by simp [D.zi2, Ne.symm bz], Tf2 := by simp [D.TOi2, Ne.symm hbT],
        sep1_2 := by simp [D.i12, Ne.symm (p2.apart h1)], sep2_1 := by simp [Ne.symm D.i12, Ne.symm (p.apart h2)] }
    have l1 : i < its.toArray.size := by simpa using (List.getElem?_eq_some_iff.mp hu).1
    have l2 : i < its2.toArray.size := by simpa using (List.getElem?_eq_some_iff.mp hu2).1
    refine wpAny_pyNext_zipD2_item S D1 D2 hz hTI hTO ⟨h1, p⟩ ⟨h2, p2⟩ l1 l2 fun v1 v2 h' tk P1 P2 z' TO' h1' h2' hT hsz hk => ?_
    have ev1 : v1 = u := by
      have q1 : its.toArray[i]? = some v1 := P1
      have q2 : its.toArray[i]? = some u := by simpa using hu
      rw [q1] at q2; cases q2; rfl
    have ev2 : v2 = u2 := by
      have q1 : its2.toArray[i]? = some v2 := P2
      have q2 : its2.toArray[i]? = some u2 := by simpa using hu2
      rw [q1] at q2; cases q2; rfl
    subst ev1 ev2
    refine ⟨_, rfl, wpAny_letOwnedTupleGo_zip (s := { s with heap := h', toks := tk }) z' fun h'' z'' sb => ?_⟩
    have hT2 : h''.get? s.heap.objs.size = some { cls := .type "tuple", data := .seq #[v1, v2] } := (sb.2 _ (Nat.ne_of_gt hzl)).trans hT
    have new : ObjOk X.prog X.w (upd H s.heap.objs.size (.frz { cls := .type "tuple", data := .seq #[v1, v2] } (.tup [x, y]))) h'' s.heap.objs.size (.frz { cls := .type "tuple", data := .seq #[v1, v2] } (.tup [x, y])) :=
      ⟨hT2, by show 2 ≤ sizeLine; decide, [v1, v2], .cons ru (.cons ru2 .nil), ⟨_, hT2, rfl, _, rfl⟩⟩
    have I1 : Inv X pins σ (upd H s.heap.objs.size (.frz { cls := .type "tuple", data := .seq #[v1, v2] } (.tup [x, y]))) { s with heap := h'', toks := tk } :=
      I.turnedNew (t' := tk) (ch := [z, TI, TO, i1, i2]) (fun c o hb q => (sb.2 c (fun q' => hb (by simp [q']))).trans (hk c o (fun q' => hb (by simp [q'])) (fun q' => hb (by simp [q'])) (fun q' => hb (by simp [q'])) (fun q' => hb (by simp [q'])) q)) hf (Nat.le_refl _) new
    refine ⟨.ref s.heap.objs.size, _, I1, rfl, ⟨_, _, x, y, rfl, I.hok.fresh (Nat.le_refl _), ⟨rfl, rfl⟩, rfl, fun l hl => by rw [Inv.seq_inj I hl hqx]; exact hx, fun l hl => by rw [Inv.seq_inj I hl hqy]; exact hy⟩, ⟨z'', ?_, ⟨v1, v2, ?_⟩, ?_, ?_⟩, fun c hcm => ?_⟩
    · exact (sb.2 _ D.TIz).trans (hk _ _ D.TIz D.TITO D.TIi1 D.TIi2 hTI)
    · exact (sb.2 _ D.TOz).trans TO'
    · exact h1'.1.at fun o q => (sb.2 _ (Ne.symm D.zi1)).trans q
    · exact h2'.1.at fun o q => (sb.2 _ (Ne.symm D.zi2)).trans q
    · have hlt : c < s.heap.objs.size := by
        have e' : c = z ∨ c = TI ∨ c = TO ∨ c = i1 ∨ c = i2 := by simpa using hcm
        rcases e' with q | q | q | q | q
        · rw [q]; exact hzl
        · rw [q]; exact Heap.lt_size hTI
        · rw [q]; exact Heap.lt_size hTO
        · rw [q]; obtain ⟨_, e1, _⟩ := h1.obj; exact Heap.lt_size e1
        · rw [q]; obtain ⟨_, e2, _⟩ := h2.obj; exact Heap.lt_size e2
      rw [upd_ne (Nat.ne_of_lt hlt)]
      exact (hf c hcm).1
  done := by
    intro X hP hw hK hc i pins s σ H E I hf st hg
    subst hP hw hK
    obtain ⟨hz, hTI, ⟨x0, y0, hTO⟩, h1, h2⟩ := st
    obtain ⟨xs, ys, hqx, hqy, hi1, hi2, hend⟩ := hg
    obtain ⟨its, rv, p, _⟩ := Inv.seq I hqx
    obtain ⟨its2, rv2, p2, _⟩ := Inv.seq I hqy
    have l1 := rv.length
    have l2 := rv2.length
    have az : a ≠ z := fun e => notZip (z := z) p (e ▸ hz)
    have bz : b ≠ z := fun e => notZip (z := z) p2 (e ▸ hz)
    have D1 := draws_seq (prog := X.prog) (w := X.w) (A := X.A.in1) (I.ok.hd hc) k i1 a (p.apart h1) its.toArray
    have D2 := draws_seq (prog := X.prog) (w := X.w) (A := X.A.in1) (I.ok.hd hc) k' i2 b (p2.apart h2) its2.toArray
    have S : ZipSep2 z TI TO i1 i2 [i1, a] [i2, b] :=
      { TIz := D.TIz, TOz := D.TOz, TITO := D.TITO, TIi1 := D.TIi1, mem1 := by simp, zf1 := by simp [D.zi1, Ne.symm az], Tf1 := by simp [D.TOi1, Ne.symm haT],
        TIi2 := D.TIi2, mem2 := by simp, zf2 := by simp [D.zi2, Ne.symm bz], Tf2 := by simp [D.TOi2, Ne.symm hbT],
        sep1_2 := by simp [D.i12, Ne.symm (p2.apart h1)], sep2_1 := by simp [Ne.symm D.i12, Ne.symm (p.apart h2)] }
    have e1 : its.toArray.size = xs.length := by simp [l1]
    have e2 : its2.toArray.size = ys.length := by simp [l2]
    exact wpAny_pyNext_zipD2_end S D1 D2 hz hTI hTO ⟨h1, p⟩ ⟨h2, p2⟩ (by omega) (by omega) (by omega) fun h' tk hk => ⟨rfl, I.turnedL (t' := tk) (ch := [z, TI, TO, i1, i2]) (fun c o hb q =>
      hk c o (fun q' => hb (by simp [q'])) (fun q' => hb (by simp [q'])) (fun q' => hb (by simp [q'])) (fun q' => hb (by simp [q'])) q) hf⟩
  self := fun A i s Q E st h => wpAny_pyIter_zip st.1 h
def iZipK (K : Fg) (ta : TA) : TI := fun σ H R => ta σ H fun vs H1 => ∃ k k' a b xs ys, vs = [.ref a, .ref b] ∧ SqK K k H1 a xs ∧ SqK K k' H1 b ys ∧ R (ItzK K k k' a b) H1
theorem pi_zipK {X : Cx} {e e2 : Expr} {ta : TA} {p pos tpos : Pos} {elts : List Expr} {kk : Nat} (hg : Gl X "zip") (hm : X.mg "zip" = none) (ha : PA X [e, e2] ta)
    (hs : starEach [e, e2] X.env = (false, eval e X.env) :: starEach [e2] X.env := by rfl) (hpl : (backTo pos (starEach [e2] X.env)).any (·.1) = false := by rfl) :
    PI X (.Tuple elts kk tpos) (.Call (.Name "zip" p) [e, e2] [] pos) (iZipK X.K ta) := by
  refine ⟨fun pins s σ H R I h => ?_⟩
  refine Call_ (ld_blt I hg hm PyProof.Rows.boot_zip (PyProof.Rows.callWith_type1 (thn (ha.run pos pins s σ H _ I h) fun us s1 ⟨vs, H1, I1, r1, q1⟩ => ?_) hs hpl))
  obtain ⟨k, k', a, b, xs, ys, ex, hqx, hqy, q⟩ := q1
  subst ex
  cases r1 with
  | cons r rr =>
    cases rr with
    | cons r' rr =>
      cases rr
      cases r
      cases r'
      have fresh5 : ∀ c, c ∈ [s1.heap.objs.size + 4, s1.heap.objs.size + 2, s1.heap.objs.size + 3, s1.heap.objs.size, s1.heap.objs.size + 1] → FpOk X pins H1 c := fun c hcm => by
        have e' : c = s1.heap.objs.size + 4 ∨ c = s1.heap.objs.size + 2 ∨ c = s1.heap.objs.size + 3 ∨ c = s1.heap.objs.size ∨ c = s1.heap.objs.size + 1 := by simpa using hcm
        have hle : s1.heap.objs.size ≤ c := by
          rcases e' with z | z | z | z | z
          · rw [z]; exact Nat.le_add_right _ _
          · rw [z]; exact Nat.le_add_right _ _
          · rw [z]; exact Nat.le_add_right _ _
          · rw [z]; exact Nat.le_refl _
          · rw [z]; exact Nat.le_add_right _ _
        exact I1.fpOk hle (I1.hok.fresh hle)
      obtain ⟨its, rv, p1, _⟩ := Inv.seq I1 hqx
      obtain ⟨its2, rv2, p2, _⟩ := Inv.seq I1 hqy
      have la := p1.lt
      have lb := p2.lt
      refine zip_begins2 (begins_seq k a its.toArray) (begins_seq k' b its2.toArray) p1 p2 fun h' hz hTI hTO h1 h2 hsz hk => wpAny_pyIter_zip hz ?_
      have I2 : Inv X pins σ H1 { s1 with heap := h' } := I1.kept (t' := s1.toks) hk
      generalize hn : s1.heap.objs.size = n at *
      refine ⟨n + 4, [n + 4, n + 2, n + 3, n, n + 1], _, _, H1, rfl, I2, turn_zipK (TI := n + 2) (TO := n + 3) (i1 := n) (i2 := n + 1) ?_ ?_ ?_, ⟨hz, hTI, ⟨_, _, hTO⟩, IterOf.new h1, IterOf.new h2⟩, fresh5, q⟩
      · constructor
        · show (n + 2 : Nat) ≠ n + 4; omega
        · show (n + 3 : Nat) ≠ n + 4; omega
        · show (n + 2 : Nat) ≠ n + 3; omega
        · show (n + 2 : Nat) ≠ n; omega
        · show (n + 2 : Nat) ≠ n + 1; omega
        · show (n + 4 : Nat) ≠ n; omega
        · show (n + 4 : Nat) ≠ n + 1; omega
        · show (n + 3 : Nat) ≠ n; omega
        · show (n + 3 : Nat) ≠ n + 1; omega
        · show (n : Nat) ≠ n + 1; omega
      · exact Nat.ne_of_lt (Nat.lt_of_lt_of_le la (Nat.le_add_right _ _))
      · exact Nat.ne_of_lt (Nat.lt_of_lt_of_le lb (Nat.le_add_right _ _))
theorem walk_zipK {K : Fg} {k k' : SK} {a b : Addr} {xs ys : List V} {n : Nat} (hn : n = min xs.length ys.length) : L2.Walk (ItzK K k k' a b) n (fun H => SqK K k H a xs ∧ SqK K k' H b ys) (YPairF (fun i => xs[i]?) (fun i => ys[i]?)) := by
  subst hn
  refine ⟨fun i _ hi q => ?_, fun _ q => ⟨xs, ys, q.1, q.2, by omega, by omega, by omega⟩, fun i H v H' _ q y => ?_⟩
  · have h1 : i < xs.length := by omega
    have h2 : i < ys.length := by omega
    exact ⟨xs, ys, xs[i], ys[i], q.1, q.2, by simp [h1], by simp [h2]⟩
  · obtain ⟨T, o, x, z, h1, h2, fz, h3, h4, h5⟩ := y
    exact ⟨T, o, x, z, h1, h2, fz, h3, h4 xs q.1, h5 ys q.2⟩
/-! ### a list or a tuple -/
def iSeq (K : Fg) (tl : TE) : TI := fun σ H R => tl σ H fun x H1 => ∃ a, x = .ref a ∧ (((∃ xs, SqL K H1 a xs) ∧ R (Itl K a) H1) ∨ ((∃ xs, SqT K H1 a xs) ∧ R (Itt K a) H1))
theorem pi_seq {X : Cx} {tg l : Expr} {tl : TE} (hl : PE X l tl) : PI X tg l (iSeq X.K tl) := by
  refine ⟨fun pins s σ H R I h => ?_⟩
  refine thn (hl.run pins s σ H _ I h) fun v s1 ⟨x, H1, I1, r1, q1⟩ => ?_
  obtain ⟨a, e, q1⟩ := q1
  subst e
  cases r1
  rcases q1 with ⟨⟨xs, hq⟩, q⟩ | ⟨⟨xs, hq⟩, q⟩
  · obtain ⟨its, rv, p, hz⟩ := I1.list hq
    refine wpAny_pyIter_list p.isList ?_
    refine ⟨s1.heap.objs.size, [s1.heap.objs.size], _, _, H1, rfl, I1.kept (t' := s1.toks) fun b o e => Heap.get?_push_of_some _ e, turn_list a _, ⟨_, Heap.get?_push_size _ rfl, rfl, rfl⟩, fun b hb => ?_, q⟩
    have e : b = s1.heap.objs.size := by simpa using hb
    subst e
    exact I1.fpOk (Nat.le_refl _) (I1.hok.fresh (Nat.le_refl _))
  · obtain ⟨its, rv, p, hz⟩ := I1.tuple hq
    refine wpAny_pyIter_tuple (show s1.heap.IsTuple a its.toArray from p) ?_
    refine ⟨s1.heap.objs.size, [s1.heap.objs.size], _, _, H1, rfl, I1.kept (t' := s1.toks) fun b o e => Heap.get?_push_of_some _ e, turn_tuple a _, ⟨_, Heap.get?_push_size _ rfl, rfl, rfl⟩, fun b hb => ?_, q⟩
    have e : b = s1.heap.objs.size := by simpa using hb
    subst e
    exact I1.fpOk (Nat.le_refl _) (I1.hok.fresh (Nat.le_refl _))
end Mir
/-! What is walked, as data. -/
namespace Mir
open PySem L2
abbrev MI := Env → Option (List D × Env)
def seqOf : D → Option (List D)
  | .lst ds => some ds
  | .tup ds => some ds
  | .scr ns => some (ns.map D.int)
  | _ => none
def itSeq (m : ME) : MI := fun env => match m env with
  | some (d, env1) => match seqOf d with
    | some ds => some (ds, env1)
    | none => none
  | none => none
def rngL (lo : Int) (n : Nat) : List D := (List.range n).map fun (i : Nat) => D.int (lo + i)
def itRng1 (a : Arg) : MI := fun env => match runArgs [a] env with
  | some (rs, env1) => match getAll env1 rs with
    | some [.int j] => if -(2 ^ 62) ≤ j ∧ j < 2 ^ 62 then some (rngL 0 j.toNat, env1) else none
    | _ => none
  | none => none
def itRng2 (a b : Arg) : MI := fun env => match runArgs [a, b] env with
  | some (rs, env1) => match getAll env1 rs with
    | some [.int i, .int j] => if (-(2 ^ 62) ≤ i ∧ i < 2 ^ 62) ∧ -(2 ^ 62) ≤ j ∧ j < 2 ^ 62 then some (rngL i (j - i).toNat, env1) else none
    | _ => none
  | none => none
def enumL : Nat → List D → List D
  | _, [] => []
  | k, d :: ds => .tup [.int k, d] :: enumL (k + 1) ds
def zipL : List D → List D → List D
  | x :: xs, y :: ys => .tup [x, y] :: zipL xs ys
  | _, _ => []
def itEnum (m : ME) : MI := fun env => match m env with
  | some (d, env1) => match itemsOf d with
    | some ds => some (enumL 0 ds, env1)
    | none => none
  | none => none
def itZip (m m' : ME) : MI := fun env => match m env with
  | some (d, env1) => match m' env1 with
    | some (d', env2) => match itemsOf d with
      | some ds => match itemsOf d' with
        | some ds' => some (zipL ds ds', env2)
        | none => none
      | none => none
    | none => none
  | none => none
section
variable {K : Fg} {te te' : TE} {m m' : ME}
theorem yields_at {F : List Addr} {H : Hp} {xs : List V} {ds : List D} (r : Reps K (off F H) xs ds) : Yields K F H ds (L2.YAt xs) := fun i H1 x H2 F1 d hd hl ex y => by
  obtain ⟨rfl, hx⟩ := y
  obtain ⟨v, hv, rv⟩ := r.get hd
  rw [hx] at hv; cases hv
  exact ⟨Ex.refl _, rv.mono ex⟩
theorem yields_pair {F : List Addr} {H : Hp} {xs ys : Nat → Option V} {ds : List D} (h : ∀ i d, ds[i]? = some d → ∃ a b, d = .tup [a, b] ∧ (∀ x, xs i = some x → Rep K (off F H) x a) ∧ ∀ y, ys i = some y → Rep K (off F H) y b) : Yields K F H ds (YPairF xs ys) := fun i H1 v H2 F1 d hd hl ex y => by
  obtain ⟨T, o, x, y, rfl, hT, fz, rfl, hx, hy⟩ := y
  obtain ⟨a, b, rfl, ra, rb⟩ := h i d hd
  exact new_tup hl hT fz (.cons ((ra x hx).mono ex) (.cons ((rb y hy).mono ex) .nil))
theorem scr_rep {H : Hp} : ∀ ns : List Int, Reps K H (ns.map V.int) (ns.map D.int)
  | [] => .nil
  | n :: ns => .cons (.int n) (scr_rep ns)
theorem simI_seq (h : SimE K te m) : SimI K (iSeq K te) (itSeq m) := fun C F σ H env ds env' R r e q => by
  unfold itSeq at e
  split at e
  · rename_i d env1 h1
    split at e
    · rename_i ds' hd
      cases e
      refine h C F σ H env d env' _ r h1 fun v H1 r1 e1 p1 => ?_
      unfold seqOf at hd
      split at hd
      · cases hd
        cases p1 with
        | lst hs rs =>
          refine ⟨_, rfl, .inl ⟨⟨_, SqL.of (off_ex _ _ hs)⟩, ?_⟩⟩
          rename_i a xs
          have w := L2.walk_list (K := K) (a := a) (xs := xs)
          rw [rs.length] at w
          exact q _ _ _ H1 w (fun F1 H2 ex => ex_l off_ex (SqL.of (ex _ _ hs))) (yields_at rs) r1 e1
      · cases hd
        cases p1 with
        | tup hs rs =>
          refine ⟨_, rfl, .inr ⟨⟨_, ex_t off_ex hs.sq⟩, ?_⟩⟩
          rename_i a xs
          have w := L2.walk_tup (K := K) (a := a) (xs := xs)
          rw [rs.length] at w
          exact q _ _ _ H1 w (fun F1 H2 ex => ex_t off_ex (ex_t ex hs.sq)) (yields_at rs) r1 e1
      · rename_i ns
        cases hd
        cases p1 with
        | scr hs =>
          refine ⟨_, rfl, .inl ⟨⟨_, ex_l off_ex hs⟩, ?_⟩⟩
          rename_i a
          have w := L2.walk_list (K := K) (a := a) (xs := ns.map V.int)
          rw [(scr_rep (K := K) (H := H) ns).length] at w
          exact q _ _ _ H1 w (fun F1 H2 ex => ex_l off_ex (ex_l ex hs)) (yields_at (scr_rep ns)) r1 e1
      · cases hd
    · cases e
  · cases e
theorem rngL_get {lo : Int} {n i : Nat} {d : D} (h : (rngL lo n)[i]? = some d) : d = .int (lo + i) := by
  unfold rngL at h
  rw [List.getElem?_map] at h
  cases e : (List.range n)[i]? with
  | none => rw [e] at h; cases h
  | some k =>
    rw [e] at h
    have hk : k = i := by
      have := (List.getElem?_eq_some_iff.mp e).2
      simpa using this.symm
    cases h; rw [hk]
theorem rngL_length {lo : Int} {n : Nat} : (rngL lo n).length = n := by unfold rngL; simp
theorem yields_rng {F : List Addr} {H : Hp} {lo : Int} {n : Nat} : Yields K F H (rngL lo n) (L2.YFn fun i => .int (lo + i)) := fun i H1 x H2 F1 d hd hl ex y => by
  obtain ⟨rfl, rfl⟩ := y
  rw [rngL_get hd]
  exact ⟨Ex.refl _, .int _⟩
theorem simI_rng1 {tr : TA} {a : Arg} (ha : SimA K tr [a]) : SimI K (iRng1 tr) (itRng1 a) := fun C F σ H env ds env' R r e q => by
  unfold itRng1 at e
  split at e
  · rename_i rs env1 h1
    split at e
    · rename_i j h2
      split at e
      · rename_i hc
        cases e
        refine ha C F σ H env rs env' _ r h1 fun vs H1 r1 e1 p1 => ?_
        obtain ⟨x, rfl, hx⟩ := (p1.vals r1 h2).one
        refine ⟨j, by rw [hx.int], hc.1, hc.2, ?_⟩
        have w := L2.walk_range (lo := 0) (n := j.toNat)
        exact q _ _ _ H1 (by rw [rngL_length]; exact w) (fun _ _ _ => trivial) yields_rng r1 e1
      · cases e
    · cases e
  · cases e
theorem simI_rng2 {tr : TA} {a b : Arg} (ha : SimA K tr [a, b]) : SimI K (iRng2 tr) (itRng2 a b) := fun C F σ H env ds env' R r e q => by
  unfold itRng2 at e
  split at e
  · rename_i rs env1 h1
    split at e
    · rename_i i j h2
      split at e
      · rename_i hc
        cases e
        refine ha C F σ H env rs env' _ r h1 fun vs H1 r1 e1 p1 => ?_
        obtain ⟨x, y, rfl, hx, hy⟩ := (p1.vals r1 h2).two
        refine ⟨i, j, by rw [hx.int, hy.int], ⟨hc.1.1, hc.1.2, hc.2.1, hc.2.2⟩, ?_⟩
        have w := L2.walk_range (lo := i) (n := (j - i).toNat)
        exact q _ _ _ H1 (by rw [rngL_length]; exact w) (fun _ _ _ => trivial) yields_rng r1 e1
      · cases e
    · cases e
  · cases e
theorem enumL_get : ∀ {ds : List D} {k i : Nat} {d : D}, (enumL k ds)[i]? = some d → ∃ x, ds[i]? = some x ∧ d = .tup [.int ((k + i : Nat) : Int), x]
  | d :: ds, k, 0, e, h => by
    simp [enumL] at h; subst h; exact ⟨d, rfl, rfl⟩
  | d :: ds, k, i + 1, e, h => by
    simp [enumL] at h
    obtain ⟨x, h1, h2⟩ := enumL_get h
    exact ⟨x, by simpa using h1, by rw [h2, show k + 1 + i = k + (i + 1) by omega]⟩
  | [], k, i, e, h => by simp [enumL] at h
theorem enumL_length : ∀ {ds : List D} {k : Nat}, (enumL k ds).length = ds.length
  | [], _ => rfl
  | d :: ds, k => by simp [enumL, enumL_length]
theorem zipL_get : ∀ {xs ys : List D} {i : Nat} {d : D}, (zipL xs ys)[i]? = some d → ∃ x y, xs[i]? = some x ∧ ys[i]? = some y ∧ d = .tup [x, y]
  | x :: xs, y :: ys, 0, d, h => by simp [zipL] at h; subst h; exact ⟨x, y, rfl, rfl, rfl⟩
  | x :: xs, y :: ys, i + 1, d, h => by
    simp [zipL] at h
    obtain ⟨a, b, h1, h2, h3⟩ := zipL_get h
    exact ⟨a, b, by simpa using h1, by simpa using h2, h3⟩
  | [], _, _, _, h => by simp [zipL] at h
  | _ :: _, [], _, _, h => by simp [zipL] at h
theorem zipL_length : ∀ {xs ys : List D}, (zipL xs ys).length = min xs.length ys.length
  | x :: xs, y :: ys => by simp [zipL, zipL_length]
  | [], _ => by simp [zipL]
  | _ :: _, [] => by simp [zipL]
/-- a value that is a list or a tuple, for good -/
theorem Rep.seqK {F : List Addr} {H : Hp} {v : V} {d : D} {ds : List D} (h : Rep K (off F H) v d) (e : itemsOf d = some ds) : ∃ k a xs, v = .ref a ∧ SqK K k H a xs ∧ Reps K (off F H) xs ds ∧ ∀ F1 H1, Ex (off F H) (off F1 H1) → SqK K k H1 a xs := by
  unfold itemsOf at e
  split at e
  · cases e
    cases h with | lst hs rs => exact ⟨.l, _, _, rfl, SqL.of (off_ex _ _ hs), rs, fun F1 H1 ex => SqL.of (off_ex _ _ (ex _ _ hs))⟩
  · cases e
    cases h with | tup hs rs => exact ⟨.t, _, _, rfl, ex_t off_ex hs.sq, rs, fun F1 H1 ex => ex_t off_ex (ex_t ex hs.sq)⟩
  · cases e
theorem simI_enum (h : SimE K te m) : SimI K (iEnumK K (tCons te tNil)) (itEnum m) := fun C F σ H env ds env' R r e q => by
  unfold itEnum at e
  split at e
  · rename_i d env1 h1
    split at e
    · rename_i ds' hd
      cases e
      refine h C F σ H env d env' _ r h1 fun v H1 r1 e1 p1 => ?_
      obtain ⟨k, a, xs, rfl, hs, rs, st⟩ := p1.seqK hd
      refine ⟨k, a, xs, rfl, hs, ?_⟩
      have w := walk_enumK (K := K) (k := k) (a := a) (xs := xs)
      refine q _ _ _ H1 (by rw [enumL_length, ← rs.length]; exact w) st (yields_pair fun i d hd => ?_) r1 e1
      obtain ⟨x, hx, rfl⟩ := enumL_get hd
      refine ⟨_, _, rfl, fun y hy => ?_, fun y hy => ?_⟩
      · cases hy
        rw [Nat.zero_add]
        exact .int _
      · obtain ⟨v, hv, rv⟩ := rs.get hx
        rw [hy] at hv; cases hv
        exact rv
    · cases e
  · cases e
theorem simI_zip (h : SimE K te m) (h' : SimE K te' m') : SimI K (iZipK K (tCons te (tCons te' tNil))) (itZip m m') := fun C F σ H env ds env' R r e q => by
  unfold itZip at e
  split at e
  · rename_i d env1 h1
    split at e
    · rename_i d' env2 h2
      split at e
      · rename_i ds1 hd1
        split at e
        · rename_i ds2 hd2
          cases e
          refine h C F σ H env d env1 _ r h1 fun v H1 r1 e1 p1 => ?_
          refine h' C F σ H1 env1 d' env' _ r1 h2 fun v' H2 r2 e2 p2 => ?_
          obtain ⟨k, a, xs, rfl, hs, rs, st⟩ := p1.seqK hd1
          obtain ⟨k', b, ys, rfl, hs', rs', st'⟩ := p2.seqK hd2
          refine ⟨k, k', a, b, xs, ys, rfl, st F H2 e2, hs', ?_⟩
          have w := walk_zipK (K := K) (k := k) (k' := k') (a := a) (b := b) (xs := xs) (ys := ys) rfl
          refine q _ _ _ H2 (by rw [zipL_length, ← rs.length, ← rs'.length]; exact w) (fun F1 H3 ex => (⟨st F1 H3 (e2.trans ex), st' F1 H3 ex⟩ : SqK K k H3 a xs ∧ SqK K k' H3 b ys)) (yields_pair fun i d hd => ?_) r2 (e1.trans e2)
          obtain ⟨x, y, hx, hy, rfl⟩ := zipL_get hd
          refine ⟨_, _, rfl, fun z hz => ?_, fun z hz => ?_⟩
          · obtain ⟨v, hv, rv⟩ := rs.get hx
            rw [hz] at hv; cases hv
            exact rv.mono e2
          · obtain ⟨v, hv, rv⟩ := rs'.get hy
            rw [hz] at hv; cases hv
            exact rv
        · cases e
      · cases e
    · cases e
  · cases e
end
end Mir
/-! Names, chains, what a def's walk gives. -/
namespace Mir
open PySem L2
open PyProof.Rows
theorem bt_len : bootBuiltins "len" = some (.builtin "len") := by decide +kernel
theorem bt_abs : bootBuiltins "abs" = some (.builtin "abs") := by decide +kernel
theorem bt_sum : bootBuiltins "sum" = some (.builtin "sum") := by decide +kernel
theorem bt_any : bootBuiltins "any" = some (.builtin "any") := by decide +kernel
theorem bt_all : bootBuiltins "all" = some (.builtin "all") := by decide +kernel
theorem bt_max : bootBuiltins "max" = some (.builtin "max") := by decide +kernel
theorem bt_min : bootBuiltins "min" = some (.builtin "min") := by decide +kernel
theorem bt_isinstance : bootBuiltins "isinstance" = some (.builtin "isinstance") := by decide +kernel
theorem bt_int : bootBuiltins "int" = some (.type "int") := by decide +kernel
theorem bt_str : bootBuiltins "str" = some (.type "str") := by decide +kernel
theorem bt_bool : bootBuiltins "bool" = some (.type "bool") := by decide +kernel
theorem bt_list : bootBuiltins "list" = some (.type "list") := by decide +kernel
theorem bt_tuple : bootBuiltins "tuple" = some (.type "tuple") := by decide +kernel
def mYes : MT := fun env => some (true, env)
def mChain (f f' : D → D → Option D) (a b c : Arg) : ME := fun env => match a.run env with
  | some (x, env1) => match b.run env1 with
    | some (y, env2) => match getA env2 x with
      | some dx => match getA env2 y with
        | some dy => match f dx dy with
          | some (.bl true) => match c.run env2 with
            | some (z, env3) => match getA env3 y with
              | some dy' => match getA env3 z with
                | some dz => match f' dy' dz with
                  | some d => some (d, env3)
                  | none => none
                | none => none
              | none => none
            | none => none
          | some (.bl false) => some (.bl false, env2)
          | _ => none
        | none => none
      | none => none
    | none => none
  | none => none
section
variable {K : Fg} {ta tb tc : TE} {a b c : Arg}
theorem simT_yes : SimT K tYes mYes := fun C F σ H env b env' Q r e q => by cases e; exact q H r (Ex.refl _)
theorem sim_c_ty {n : String} : SimE K (tC (.ty n)) (mC (.ty n)) := fun C F σ H env d env' Q r e q => by cases e; exact q _ _ r (Ex.refl _) (.ty n)
theorem sim_chain {r r' : R2} {f f' : D → D → Option D} (hr : ROp K r f) (hr' : ROp K r' f') (ha : SimX K ta a) (hb : SimX K tb b) (hc : SimX K tc c) : SimE K (tChain r r' ta tb tc) (mChain f f' a b c) := fun C F σ H env d env' Q rl e q => by
  unfold mChain at e
  split at e
  · rename_i x env1 h1
    split at e
    · rename_i y env2 h2
      split at e
      · rename_i dx hx
        split at e
        · rename_i dy hy
          refine ha C F σ H env x env1 _ rl h1 fun v1 H1 r1 e1 p1 => ?_
          refine hb C F σ H1 env1 y env2 _ r1 h2 fun v2 H2 r2 e2 p2 => ?_
          split at e
          · rename_i hd
            split at e
            · rename_i z env3 h3
              split at e
              · rename_i dy' hy'
                split at e
                · rename_i dz hz
                  split at e
                  · rename_i d' hd'
                    cases e
                    refine hr F H2 v1 v2 dx dy _ _ r2.live ((p1.mono e2).val r2 hx) (p2.val r2 hy) hd fun v H3 e3 p3 => ?_
                    refine ⟨true, p3.bl_inv, ?_⟩
                    rw [if_pos rfl]
                    refine hc C F σ H3 env2 z env' _ (r2.grow e3) h3 fun v4 H4 r4 e4 p4 => ?_
                    refine hr' F H4 v2 v4 dy' dz d Q r4.live (((p2.mono (off_mono e3)).mono e4).val r4 hy') (p4.val r4 hz) hd' fun v5 H5 e5 p5 => ?_
                    exact q v5 H5 (r4.grow e5) ((((e1.trans e2).trans (off_mono e3)).trans e4).trans (off_mono e5)) p5
                  · cases e
                · cases e
              · cases e
            · cases e
          · rename_i hd
            cases e
            refine hr F H2 v1 v2 dx dy _ _ r2.live ((p1.mono e2).val r2 hx) (p2.val r2 hy) hd fun v H3 e3 p3 => ?_
            refine ⟨false, p3.bl_inv, ?_⟩
            rw [if_neg Bool.false_ne_true]
            exact q _ H3 (r2.grow e3) ((e1.trans e2).trans (off_mono e3)) (.bl false)
          · cases e
        · cases e
      · cases e
    · cases e
  · cases e
end
/-- a def stands there and keeps its promise -/
structure Ok (P : Program) (w : World) (K : Fg) (mg : Str → Option Value) (base : Heap) (x : Str) (k : Nat) (ps : List Str) (sp : Sp) : Prop where
  ex : ∃ f fd, mg x = some (.ref f) ∧ PySem.W.keepIn K (.ref f) = true ∧ Binds K fd ps [] ∧ FnOk P w K mg base CX0 k f fd ps sp
section
variable {K : Fg}
theorem off_nil {H : Hp} : off [] H = H := by
  funext a
  exact off_out (by simp)
/-- what the head asks of the law's promise -/
theorem law_end {m : List D → Option D} {H : Hp} {a : Addr} {ns : List Int} (hS : SqL K H a (ns.map V.int)) (h : m [.scr ns] = some (.bl true)) : sp0 K 1 m [.ref a] H (fun v _ => v = .bl true) fun _ _ _ => False := by
  refine ⟨rfl, [], [.scr ns], .bl true, fun _ h => (by cases h), .cons (.scr (by rw [off_nil]; exact hS)) .nil, h, fun v H' _ hv => ?_⟩
  cases hv
  rfl
theorem sim_none0 {n : Nat} {ts : TS} : ∀ {N k : Nat}, runFn0 N k (fun _ => none) = fun _ => none := fun {N k} => by
  funext ds
  unfold runFn0
  split <;> rfl
end
end Mir
/-! Places in lists and tuples, truth, lists of a text. -/
namespace Mir
open PySem PySem.Spec PyProof.Rows L2
/-! ### a text's signs as a list -/
def chrV (z : Str) : List V := z.cps.toList.map fun c => V.str ⟨#[c]⟩
def chrD (z : Str) : List D := z.cps.toList.map fun c => D.str ⟨#[c]⟩
theorem call_listS {X : Cx} (hc : X.calm = true) : CallR X (.type "list") (fun xs H Q => ∃ z, xs = [.str z] ∧ z.length ≤ sizeLine ∧ ∀ l, H l = none → Q (.ref l) (upd H l (.lst (chrV z)))) := by
  intro pins s σ H xs us Q I r h
  obtain ⟨z, rfl, hz, q⟩ := h
  obtain ⟨u, rfl, t, rfl⟩ := vals1 r
  have hz' : z.cps.size ≤ sizeLine := hz
  refine call_list_str (hn := hz') (I.ok.hd hc) z t (fun h' tk acc c k e hi => ?_)
  have I1 : Inv X pins σ H { s with heap := h', toks := tk } := I.kept k
  have hlen : (chrV z).length = z.cps.size := by simp [chrV]
  have hv : Vals (chrV z) acc.toList := by
    have h1 : acc.size = (chrV z).length := hi.1.trans hlen.symm
    have : ∀ (xs : List V) (vs : List Value), vs.length = xs.length → (∀ (j : Nat) x v, xs[j]? = some x → vs[j]? = some v → RelV x v) → Vals xs vs := by
      intro xs
      induction xs with
      | nil => intro vs hl _; cases vs with | nil => exact .nil | cons _ _ => simp at hl
      | cons x xs ih =>
        intro vs hl hr
        cases vs with
        | nil => simp at hl
        | cons v vs => exact .cons (hr 0 x v rfl rfl) (ih vs (by simpa using hl) fun j x v hx hv => hr (j + 1) x v (by simpa using hx) (by simpa using hv))
    refine this _ _ (by simpa using h1) fun j x v hx hv => ?_
    obtain ⟨c, u, hc', rfl⟩ := hi.2 j v (by simpa using hv)
    have hx' : x = V.str ⟨#[c]⟩ := by
      unfold chrV at hx
      rw [List.getElem?_map] at hx
      have : z.cps.toList[j]? = some c := by simpa using hc'
      rw [this] at hx
      exact (Option.some.inj hx).symm
    subst hx'
    exact ⟨u, rfl⟩
  have hf : H s.heap.objs.size = none := I.hok.fresh (Nat.le_refl _)
  refine ⟨.ref s.heap.objs.size, _, I.laid (t' := tk) (o := .lst (chrV z)) k (Nat.le_refl _) ?_, rfl, q _ hf⟩
  exact ⟨by rw [hlen]; exact hz', acc.toList, c, hv, by simpa using e⟩
def rListA (K : Fg) : List V → Hp → VK → Prop := fun xs H Q => rListOf K xs H Q ∨ (∃ z, xs = [.str z] ∧ z.length ≤ sizeLine ∧ ∀ l, H l = none → Q (.ref l) (upd H l (.lst (chrV z))))
theorem call_listA {X : Cx} (hc : X.calm = true) : CallR X (.type "list") (rListA X.K) := call_list_of.or (call_listS hc)
def listFA (as : List D) : Option D := match as with
  | [.str z] => if z.length ≤ 100000 then some (.lst (chrD z)) else none
  | _ => listF as
section
variable {K : Fg}
theorem chr_rep {H : Hp} (z : Str) : Reps K H (chrV z) (chrD z) := by
  unfold chrV chrD
  induction z.cps.toList with
  | nil => exact .nil
  | cons c cs ih => exact .cons (.str _) ih
theorem list_srcA {F : List Addr} {H : Hp} {xs : List V} {as : List D} {d : D} (ra : RepBs K F H xs as) (e : listFA as = some d) : ∃ ys ds, d = .lst ds ∧ Reps K (off F H) ys ds ∧ ∀ Q : VK, (∀ l, H l = none → Q (.ref l) (upd H l (.lst ys))) → rListA K xs H Q := by
  unfold listFA at e
  split at e
  · split at e
    · rename_i z hz
      cases e
      obtain ⟨x, rfl, h⟩ := ra.one
      rw [h.str]
      exact ⟨_, _, rfl, chr_rep z, fun Q q => .inr ⟨z, rfl, small hz, q⟩⟩
    · cases e
  · obtain ⟨p, ys, ds, rfl, hs, rfl, r⟩ := list_src ra e
    exact ⟨ys, ds, rfl, r, fun Q q => .inl ⟨p, ys, rfl, hs, q⟩⟩
theorem simN_listA {tr : TA} {as : List Arg} (ha : SimA K tr as) : SimN K (tCB (rListA K) tr) (mCB listFA as) := fun C F σ H env d env' Q rl e q => by
  unfold mCB at e
  split at e
  · rename_i x env1 h1
    split at e
    · rename_i dx hx
      split at e
      · rename_i d' hd
        cases e
        refine ha C F σ H env x env' _ rl h1 fun vs H1 r1 e1 p1 => ?_
        obtain ⟨ys, ds, rfl, r, mk⟩ := list_srcA (p1.vals r1 hx) hd
        refine mk _ fun l hl => ?_
        have oc : Ex (off F H1) (off (l :: F) (upd H1 l (.lst ys))) := off_cons hl
        have hp0 : H l = none := by
          cases h0 : H l with
          | none => rfl
          | some o =>
            by_cases pF : l ∈ F
            · exact absurd pF (r1.notin hl)
            · have := e1 l o (off_some.mpr ⟨pF, h0⟩)
              rw [off_some, hl] at this
              exact absurd this.2 (by simp)
        exact q l _ hp0 (fun j b e he => r1.noslot hl he) (r1.laid hl) (e1.trans oc) ⟨ys, upd_same, r.mono oc⟩
      · cases e
    · cases e
  · cases e
/-! ### truth -/
def truD : D → Option Bool
  | .non => some false
  | .bl b => some b
  | .int i => some (i != 0)
  | .str y => if y.length ≤ 100000 then some ((y.length : Int) != 0) else none
  | .lst ds => some (!ds.isEmpty)
  | .tup ds => some (!ds.isEmpty)
  | .scr ns => some (!ns.isEmpty)
  | .dk ks _ => some (!ks.isEmpty)
  | _ => none
def mTru (a : Arg) : MT := fun env => match a.run env with
  | some (x, env1) => match getA env1 x with
    | some dx => match truD dx with
      | some b => some (b, env1)
      | none => none
    | none => none
  | none => none
theorem Reps.isEmpty {H : Hp} {xs : List V} {ds : List D} (r : Reps K H xs ds) : xs.isEmpty = ds.isEmpty := by
  cases r <;> rfl
theorem tru_rep {F : List Addr} {H : Hp} {x : V} {d : D} {b : Bool} (h : RepB K F H x d) (e : truD d = some b) : TruV K x H b := by
  cases d with
  | non => cases e; rw [h.non]; rfl
  | bl _ => cases e; rw [h.bl]; rfl
  | int _ => cases e; rw [h.int]; rfl
  | str y =>
    simp only [truD] at e
    split at e
    · rename_i hl; cases e; rw [h.str]; exact ⟨small hl, rfl⟩
    · cases e
  | lst ds => cases e; obtain ⟨p, xs, rfl, hs, r⟩ := h.lst; exact .inl ⟨xs, SqL.of hs, by rw [r.isEmpty]⟩
  | tup ds => cases e; obtain ⟨p, xs, rfl, hs, r, _⟩ := h.tup; exact .inr (.inl ⟨xs, hs, by rw [r.isEmpty]⟩)
  | scr ns => cases e; obtain ⟨p, rfl, hs⟩ := h.scr; exact .inl ⟨_, hs, by cases ns <;> rfl⟩
  | dk ks ds =>
    cases e
    obtain ⟨p, xs, rfl, hl, hs, r⟩ := h.dk
    refine .inr (.inr ⟨_, hs, ?_⟩)
    cases ks with
    | nil => simp
    | cons k ks =>
      cases xs with
      | nil => simp at hl
      | cons x xs => rfl
  | _ => cases e
theorem simT_tru {ta : TE} {a : Arg} (ha : SimX K ta a) : SimT K (fun σ H Q => ta σ H fun x H' => ∃ k, TruV K x H' k ∧ Q k H') (mTru a) := fun C F σ H env b env' Q rl e q => by
  unfold mTru at e
  split at e
  · rename_i x env1 h1
    split at e
    · rename_i dx hx
      split at e
      · rename_i b' hb
        cases e
        exact ha C F σ H env x env' _ rl h1 fun v1 H1 r1 e1 p1 => ⟨b, tru_rep (p1.val r1 hx) hb, q H1 r1 e1⟩
      · cases e
    · cases e
  · cases e
/-! ### places -/
def idxS (a b : D) : Option D := match b with
  | .str z => match itemsOf a with
    | some ds => match strsOf ds with
      | some ys => match ys.findIdx? (· == z) with
        | some j => some (.int (j : Nat))
        | none => none
      | none => none
    | none => none
  | _ => none
def mIdx (m : ME) (b : Arg) : ME := fun env => match m env with
  | some (dx, env1) => match b.run env1 with
    | some (y, env2) => match getA env2 y with
      | some dy => match idxS dx dy with
        | some d => some (d, env2)
        | none => none
      | none => none
    | none => none
  | none => none
def tupOnly : ME → ME := fun m env => match m env with | some (.tup ds, e) => some (.tup ds, e) | _ => none
def lstOnly : ME → ME := fun m env => match m env with | some (.lst ds, e) => some (.lst ds, e) | _ => none
theorem find_facts {ys : List Str} {z : Str} {j : Nat} (h : ys.findIdx? (· == z) = some j) : ys[j]? = some z ∧ ∀ m, m < j → ys[m]? ≠ some z := by
  rw [List.findIdx?_eq_some_iff_getElem] at h
  obtain ⟨hl, h1, h2⟩ := h
  refine ⟨by rw [List.getElem?_eq_getElem hl, eq_of_beq h1], fun m hm e => ?_⟩
  have hm' : m < ys.length := by omega
  have := h2 m hm
  rw [List.getElem?_eq_getElem hm'] at e
  cases e
  simp at this
theorem flat_strs' (ys : List Str) : (ys.map V.str).all flatV = true := by
  rw [List.all_map]
  exact List.all_eq_true.mpr fun _ _ => rfl
def rIdxT (K : Fg) : V → List V → Hp → VK → Prop := fun x xs H Q => ∃ p, ∃ ys : List Str, ∃ z j, x = .ref p ∧ xs = [.str z] ∧ SqT K H p (ys.map V.str) ∧ ys[j]? = some z ∧ (∀ m, m < j → ys[m]? ≠ some z) ∧ Q (.int (j : Nat)) H
theorem mt_idxT {X : Cx} : MtR X "tuple.index" (rIdxT X.K) := mt_tup_index
theorem idx_facts {ds : List D} {dy d : D} {ys' : Option (List D)} {dx : D} (hi : itemsOf dx = some ds) (h : idxS dx dy = some d) : ∃ ys z j, dy = .str z ∧ strsOf ds = some ys ∧ d = .int (j : Nat) ∧ ys[j]? = some z ∧ ∀ m, m < j → ys[m]? ≠ some z := by
  unfold idxS at h
  split at h
  · rename_i z
    rw [hi] at h
    dsimp only at h
    split at h
    · rename_i ys hys
      split at h
      · rename_i j hj
        cases h
        obtain ⟨f1, f2⟩ := find_facts hj
        exact ⟨ys, z, j, rfl, hys, rfl, f1, f2⟩
      · cases h
    · cases h
  · cases h
theorem sim_idxT {ta tb : TE} {m : ME} {b : Arg} (ha : SimE K ta m) (hb : SimX K tb b) : SimE K (tTM (rIdxT K) ta (tCons tb tNil)) (mIdx (tupOnly m) b) := fun C F σ H env d env' Q rl e q => by
  unfold mIdx tupOnly at e
  split at e
  · rename_i dx env1 h1
    split at h1
    · rename_i ds env1' h1'
      cases h1
      split at e
      · rename_i y env2 h2
        split at e
        · rename_i dy hy
          split at e
          · rename_i d' hd
            cases e
            obtain ⟨ys, z, j, rfl, hys, rfl, f1, f2⟩ := idx_facts (ys' := none) (ds := ds) rfl hd
            refine ha C F σ H env (.tup ds) env1 _ rl h1' fun v1 H1 r1 e1 p1 => ?_
            cases p1 with
            | tup ht rs =>
              refine ⟨⟨_, _, rfl, ht.ex off_ex⟩, ?_⟩
              refine hb C F σ H1 env1 y env' _ r1 h2 fun v2 H2 r2 e2 p2 => ?_
              rw [(p2.val r2 hy).str]
              refine ⟨_, ys, z, j, rfl, rfl, ?_, f1, f2, q _ H2 r2 (e1.trans e2) (.int _)⟩
              rw [← strs_ok rs hys]
              exact ((ht.ex e2).ex off_ex).sq
          · cases e
        · cases e
      · cases e
    · cases h1
  · cases e
theorem eqV_str {a b : Str} : eqV (.str a) (.str b) = (a == b) := rfl
theorem sim_idxL {ta tb : TE} {m : ME} {b : Arg} (ha : SimE K ta m) (hb : SimX K tb b) : SimE K (tBM K "list" (rIndex K) ta (tCons tb tNil)) (mIdx (lstOnly m) b) := fun C F σ H env d env' Q rl e q => by
  unfold mIdx lstOnly at e
  split at e
  · rename_i dx env1 h1
    split at h1
    · rename_i ds env1' h1'
      cases h1
      split at e
      · rename_i y env2 h2
        split at e
        · rename_i dy hy
          split at e
          · rename_i d' hd
            cases e
            obtain ⟨ys, z, j, rfl, hys, rfl, f1, f2⟩ := idx_facts (ys' := none) (ds := ds) rfl hd
            refine ha C F σ H env (.lst ds) env1 _ rl h1' fun v1 H1 r1 e1 p1 => ?_
            cases p1 with
            | lst ht rs =>
              rename_i a xs
              have hxs : xs = ys.map V.str := strs_ok rs hys
              refine ⟨.inl ⟨rfl, _, SqL.of (off_ex _ _ ht)⟩, ?_⟩
              refine hb C F σ H1 env1 y env' _ r1 h2 fun v2 H2 r2 e2 p2 => ?_
              rw [(p2.val r2 hy).str]
              refine ⟨_, xs, .str z, j, .str z, rfl, rfl, SqL.of (off_ex _ _ (e2 _ _ ht)), rfl, by rw [hxs]; exact flat_strs' ys, by rw [hxs, List.getElem?_map, f1]; rfl, by rw [eqV_str]; exact beq_self_eq_true z, fun m z' hm hz' => ?_, q _ H2 r2 (e1.trans e2) (.int _)⟩
              rw [hxs, List.getElem?_map] at hz'
              cases hm' : ys[m]? with
              | none => rw [hm'] at hz'; cases hz'
              | some w =>
                rw [hm'] at hz'
                cases hz'
                rw [eqV_str]
                exact beq_eq_false_iff_ne.mpr fun e => f2 m hm (by rw [hm', e])
          · cases e
        · cases e
      · cases e
    · cases h1
  · cases e
end
/-! a def whose reading never ends: the start of a recursion -/
section
variable {P : Program} {w : World} {mg : Str → Option Value} {base : Heap} {K : Fg}
theorem none0 {x qual : Str} {params : Arguments} {body : List Stmt} {scope : Scope} {dvs : List V} {kws : List (Str × V)} {f : Addr} {fd : FuncData} {N ps : List Str} {k n : Nat} (F : FunD K x qual params body scope dvs kws f fd) (S : FnScope N ps scope) :
    FnOk P w K mg base CX0 (k + 1) f fd ps (sp0 K n fun _ => none) :=
  F.ok S (fun vs H Q E h => by obtain ⟨_, _, _, _, _, _, z, _⟩ := h; cases z) (fun cdv A outer s H vs Q E hr h => by obtain ⟨_, _, _, _, _, _, z, _⟩ := h; cases z)
theorem none1 {x qual : Str} {params : Arguments} {body : List Stmt} {scope : Scope} {dvs : List V} {kws : List (Str × V)} {f : Addr} {fd : FuncData} {N ps : List Str} {k n : Nat} (F : FunD K x qual params body scope dvs kws f fd) (S : FnScope N ps scope) :
    FnOk P w K mg base CX0 (k + 1) f fd ps (sp1 K n fun _ => none) :=
  F.ok S (fun vs H Q E h => by obtain ⟨_, _, _, _, _, _, _, _, _, _, _, _, _, z, _⟩ := h; cases z) (fun cdv A outer s H vs Q E hr h => by obtain ⟨_, _, _, _, _, _, _, _, _, _, _, _, _, z, _⟩ := h; cases z)
end
end Mir
/-! What a mirror does, as a proposition: all of it plain Lean. -/
namespace Mir
open PySem L2
@[irreducible] def Wo {α : Type} (o : Option α) (Q : α → Prop) : Prop := match o with | some a => Q a | none => False
@[irreducible] def W {α β : Type} (o : Option (α × β)) (Q : α → β → Prop) : Prop := match o with | some p => Q p.1 p.2 | none => False
section
variable {α β γ : Type} {Q Q' : α → β → Prop} {R R' : α → Prop} {o : Option (α × β)} {u : Option α}
theorem W.mono (h : W o Q) (f : ∀ a b, Q a b → Q' a b) : W o Q' := by
  unfold W at *
  split
  · exact f _ _ h
  · exact h
theorem Wo.mono (h : Wo u R) (f : ∀ a, R a → R' a) : Wo u R' := by
  unfold Wo at *
  split
  · exact f _ h
  · exact h
theorem W.ex (h : W o Q) : ∃ a b, o = some (a, b) ∧ Q a b := by
  unfold W at h
  split at h
  · exact ⟨_, _, rfl, h⟩
  · exact h.elim
theorem Wo.ex (h : Wo u R) : ∃ a, u = some a ∧ R a := by
  unfold Wo at h
  split at h
  · exact ⟨_, rfl, h⟩
  · exact h.elim
theorem W.of {a : α} {b : β} (h : o = some (a, b)) (q : Q a b) : W o Q := by rw [h]; with_unfolding_all exact q
theorem Wo.of {a : α} (h : u = some a) (q : R a) : Wo u R := by rw [h]; with_unfolding_all exact q
@[simp] theorem W_some {a : α} {b : β} : W (some (a, b)) Q ↔ Q a b := by with_unfolding_all exact Iff.rfl
@[simp] theorem W_none : W (none : Option (α × β)) Q ↔ False := by with_unfolding_all exact Iff.rfl
@[simp] theorem Wo_some {a : α} : Wo (some a) R ↔ R a := by with_unfolding_all exact Iff.rfl
@[simp] theorem Wo_none : Wo (none : Option α) R ↔ False := by with_unfolding_all exact Iff.rfl
@[simp] theorem Wo_if {c : Prop} [Decidable c] {a : α} : Wo (if c then some a else none) R ↔ c ∧ R a := by
  by_cases h : c <;> simp [h, Wo]
@[simp] theorem W_if {c : Prop} [Decidable c] {a : α} {b : β} : W (if c then some (a, b) else none) Q ↔ c ∧ Q a b := by
  by_cases h : c <;> simp [h, W]
theorem Wo_ite {c : Prop} [Decidable c] {x y : Option α} : Wo (if c then x else y) R ↔ (c → Wo x R) ∧ (¬ c → Wo y R) := by
  by_cases h : c <;> simp [h]
end
def valAt (env : Env) (i : Nat) : Option D := match env[i]? with
  | some (.val d) => some d
  | _ => none
def ownAt (env : Env) (i : Nat) : Option (Bool × D) := match env[i]? with
  | some (.own b d) => some (b, d)
  | _ => none
def frz (i : Nat) (env : Env) : Env := match env[i]? with
  | some (.own false d) => env.set i (.val d)
  | _ => env
def setV (i : Nat) (d : D) (env : Env) : Option Env := match env[i]? with
  | some (.own true _) => none
  | _ => some (env.set i (.val d))
def setO (i : Nat) (d : D) (env : Env) : Option Env := match env[i]? with
  | some (.own true _) => none
  | _ => some (env.set i (.own false d))
def lstD : D → Option (List D) | .lst ds => some ds | _ => none
def tupD : D → Option (List D) | .tup ds => some ds | _ => none
def strD : D → Option Str | .str a => some a | _ => none
def intD : D → Option Int | .int a => some a | _ => none
def blD : D → Option Bool | .bl a => some a | _ => none
def rng1 : List D → Option (List D)
  | [.int j] => if -(2 ^ 62) ≤ j ∧ j < 2 ^ 62 then some (rngL 0 j.toNat) else none
  | _ => none
def rng2 : List D → Option (List D)
  | [.int i, .int j] => if (-(2 ^ 62) ≤ i ∧ i < 2 ^ 62) ∧ -(2 ^ 62) ≤ j ∧ j < 2 ^ 62 then some (rngL i (j - i).toNat) else none
  | _ => none
section
variable {env : Env} {Q : D → Env → Prop} {P : List AV → Env → Prop} {T : Bool → Env → Prop} {S : Fl → Env → Prop} {I : List D → Env → Prop} {i n : Nat} {a b c : Arg} {m m' mo : ME} {t t' : MT} {f : D → D → Option D} {as : List Arg} {g : MG} {s s' : MS} {mi : MI} {r : AV} {rs : List AV} {vs : List Nat}
@[simp] theorem w_C {d : D} : W (mC d env) Q ↔ Q d env := by with_unfolding_all exact Iff.rfl
@[simp] theorem w_var : W (mVar i env) Q ↔ Wo (valAt env i) fun d => Q d env := by
  unfold mVar valAt
  rcases env[i]? with _ | _ | _ | ⟨_ | _, _⟩ <;> with_unfolding_all rfl
@[simp] theorem w_e : W ((Arg.e m).run env) P' ↔ W (m env) fun d e => P' (.inl d) e := by
  unfold Arg.run
  dsimp only
  split <;> (rename_i h; rw [h]; with_unfolding_all rfl)
@[simp] theorem w_s {P' : AV → Env → Prop} : W ((Arg.s i).run env) P' ↔ Wo (slotD env i) fun _ => P' (.inr i) env := by
  unfold Arg.run
  dsimp only
  split <;> (rename_i h; rw [h]; with_unfolding_all rfl)
@[simp] theorem w_nil : W (runArgs [] env) P ↔ P [] env := by with_unfolding_all exact Iff.rfl
@[simp] theorem w_cons : W (runArgs (a :: as) env) P ↔ W (a.run env) fun r e => W (runArgs as e) fun rs e' => P (r :: rs) e' := by
  rw [runArgs]
  cases h : a.run env with
  | none => with_unfolding_all rfl
  | some x => cases h2 : runArgs as x.2 <;> simp [W, h2]
@[simp] theorem wo_getA_l {d : D} {R : D → Prop} : Wo (getA env (.inl d)) R ↔ R d := by with_unfolding_all exact Iff.rfl
@[simp] theorem wo_getA_r {R : D → Prop} : Wo (getA env (.inr i)) R ↔ Wo (slotD env i) R := by with_unfolding_all exact Iff.rfl
@[simp] theorem wo_all_nil {R : List D → Prop} : Wo (getAll env []) R ↔ R [] := by with_unfolding_all exact Iff.rfl
@[simp] theorem wo_all_cons {R : List D → Prop} : Wo (getAll env (r :: rs)) R ↔ Wo (getA env r) fun d => Wo (getAll env rs) fun ds => R (d :: ds) := by
  conv => lhs; unfold getAll
  cases h : getA env r with
  | none => with_unfolding_all rfl
  | some x => cases h2 : getAll env rs <;> simp [Wo]
@[simp] theorem wo_allV_nil {R : List D → Prop} : Wo (getAllV env []) R ↔ R [] := by with_unfolding_all exact Iff.rfl
@[simp] theorem wo_allV_l {R : List D → Prop} {d : D} : Wo (getAllV env (.inl d :: rs)) R ↔ Wo (getAllV env rs) fun ds => R (d :: ds) := by
  conv => lhs; unfold getAllV
  cases h2 : getAllV env rs <;> simp [Wo]
@[simp] theorem wo_allV_r {R : List D → Prop} : Wo (getAllV env (.inr i :: rs)) R ↔ Wo (valAt env i) fun d => Wo (getAllV env rs) fun ds => R (d :: ds) := by
  rw [getAllV]
  unfold valAt
  rcases env[i]? with _ | _ | _ | ⟨_ | _, _⟩ <;> first | with_unfolding_all rfl | (cases h2 : getAllV env rs <;> simp [Wo])
@[simp] theorem w_op : W (mOp f a b env) Q ↔ W (a.run env) fun x e1 => W (b.run e1) fun y e2 => Wo (getA e2 x) fun dx => Wo (getA e2 y) fun dy => Wo (f dx dy) fun d => Q d e2 := by
  unfold mOp
  cases h : a.run env with
  | none => with_unfolding_all rfl
  | some x =>
    cases h2 : b.run x.2 with
    | none => simp [W, h2]
    | some y =>
      cases h3 : getA y.2 x.1 with
      | none => simp [W, Wo, h2, h3]
      | some dx =>
        cases h4 : getA y.2 y.1 with
        | none => simp [W, Wo, h2, h3, h4]
        | some dy => cases h5 : f dx dy <;> simp [W, Wo, h2, h3, h4, h5]
@[simp] theorem w_un {f : D → Option D} : W (mUn f a env) Q ↔ W (a.run env) fun x e1 => Wo (getA e1 x) fun dx => Wo (f dx) fun d => Q d e1 := by
  unfold mUn
  cases h : a.run env with
  | none => with_unfolding_all rfl
  | some x =>
    cases h3 : getA x.2 x.1 with
    | none => simp [W, Wo, h3]
    | some dx => cases h5 : f dx <;> simp [W, Wo, h3, h5]
@[simp] theorem w_cb {f : List D → Option D} : W (mCB f as env) Q ↔ W (runArgs as env) fun x e1 => Wo (getAll e1 x) fun dx => Wo (f dx) fun d => Q d e1 := by
  unfold mCB
  cases h : runArgs as env with
  | none => with_unfolding_all rfl
  | some x =>
    cases h3 : getAll x.2 x.1 with
    | none => simp [W, Wo, h3]
    | some dx => cases h5 : f dx <;> simp [W, Wo, h3, h5]
@[simp] theorem w_disp {k : List D → D} : W (mDisp k as env) Q ↔ W (runArgs as env) fun x e1 => Wo (getAllV e1 x) fun dx => Q (k dx) e1 := by
  unfold mDisp
  cases h : runArgs as env with
  | none => with_unfolding_all rfl
  | some x => cases h3 : getAllV x.2 x.1 <;> simp [W, Wo, h3]
@[simp] theorem w_call0 {k : List D → Option D} : W (mCall0 k as env) Q ↔ W (runArgs as env) fun x e1 => Wo (getAllV e1 x) fun dx => Wo (k dx) fun d => Q d e1 := by
  unfold mCall0
  cases h : runArgs as env with
  | none => with_unfolding_all rfl
  | some x =>
    cases h3 : getAllV x.2 x.1 with
    | none => simp [W, Wo, h3]
    | some dx => cases h5 : k dx <;> simp [W, Wo, h3, h5]
@[simp] theorem w_call1 {k : List D → Option (D × D)} : W (mCall1 k i as env) Q ↔ W (ownAt env i) fun _ _ => W (runArgs as env) fun x e1 => W (ownAt e1 i) fun b d0 => Wo (getAllV e1 x) fun dx => W (k (d0 :: dx)) fun r d1 => Q r (e1.set i (.own b d1)) := by
  unfold mCall1
  cases h0 : env[i]? with
  | none => simp [ownAt, h0, W]
  | some s0 =>
    cases s0 with
    | un => simp [ownAt, h0, W]
    | val d => simp [ownAt, h0, W]
    | own b d =>
      have e0 : ownAt env i = some (b, d) := by simp [ownAt, h0]
      rw [e0, W_some]
      dsimp only
      cases h : runArgs as env with
      | none => with_unfolding_all rfl
      | some x =>
        obtain ⟨rs, e1⟩ := x
        rw [W_some]
        dsimp only
        cases h1 : e1[i]? with
        | none => simp [ownAt, h1, W]
        | some s1 =>
          cases s1 with
          | un => simp [ownAt, h1, W]
          | val d => simp [ownAt, h1, W]
          | own b1 d1 =>
            have e1' : ownAt e1 i = some (b1, d1) := by simp [ownAt, h1]
            rw [e1', W_some]
            dsimp only
            cases h3 : getAllV e1 rs with
            | none => simp [W, Wo]
            | some dx =>
              rw [Wo_some]
              dsimp only
              cases h4 : k (d1 :: dx) <;> simp [W]
@[simp] theorem w_mut {k : D → List D → Option (D × D)} : W (mMut k i as env) Q ↔ W (ownAt env i) fun _ d => Wo (lstD d) fun _ => W (runArgs as env) fun x e1 => W (ownAt e1 i) fun b d0 => Wo (getAllV e1 x) fun dx => W (k d0 dx) fun r d1 => Q r (e1.set i (.own b d1)) := by
  unfold mMut
  cases h0 : env[i]? with
  | none => simp [ownAt, h0, W]
  | some s0 =>
    cases s0 with
    | un => simp [ownAt, h0, W]
    | val d => simp [ownAt, h0, W]
    | own b d =>
      have e0 : ownAt env i = some (b, d) := by simp [ownAt, h0]
      rw [e0, W_some]
      cases d with
      | lst dd =>
        dsimp only [lstD]
        rw [Wo_some]
        cases h : runArgs as env with
        | none => with_unfolding_all rfl
        | some x =>
          obtain ⟨rs, e1⟩ := x
          rw [W_some]
          dsimp only
          cases h1 : e1[i]? with
          | none => simp [ownAt, h1, W]
          | some s1 =>
            cases s1 with
            | un => simp [ownAt, h1, W]
            | val d => simp [ownAt, h1, W]
            | own b1 d1 =>
              have e1' : ownAt e1 i = some (b1, d1) := by simp [ownAt, h1]
              rw [e1', W_some]
              dsimp only
              cases h3 : getAllV e1 rs with
              | none => simp [W, Wo]
              | some dx =>
                rw [Wo_some]
                dsimp only
                cases h4 : k d1 dx <;> simp [W]
      | _ => simp [lstD, W, Wo]
@[simp] theorem w_strM {k : Str → List D → Option D} : W (mStrM k mo as env) Q ↔ W (mo env) fun o e0 => Wo (strD o) fun a => W (runArgs as e0) fun x e1 => Wo (getAll e1 x) fun dx => Wo (k a dx) fun d => Q d e1 := by
  unfold mStrM
  cases h0 : mo env with
  | none => with_unfolding_all rfl
  | some z =>
    obtain ⟨o, e0⟩ := z
    rw [W_some]
    cases o with
    | str a =>
      dsimp only [strD]
      rw [Wo_some]
      cases h : runArgs as e0 with
      | none => with_unfolding_all rfl
      | some x =>
        cases h3 : getAll x.2 x.1 with
        | none => simp [W, Wo, h3]
        | some dx => cases h5 : k a dx <;> simp [W, Wo, h3, h5]
    | _ => simp [strD, W, Wo]
@[simp] theorem w_if : W (mIf t m m' env) Q ↔ W (t env) fun b e => (b = true → W (m e) Q) ∧ (b = false → W (m' e) Q) := by
  unfold mIf
  cases h : t env with
  | none => with_unfolding_all rfl
  | some x => obtain ⟨b, e⟩ := x; cases b <;> simp [W]
@[simp] theorem w_test : W (mTest m env) T ↔ W (m env) fun d e => Wo (blD d) fun b => T b e := by
  unfold mTest
  cases h : m env with
  | none => with_unfolding_all rfl
  | some x => obtain ⟨d, e⟩ := x; cases d <;> simp [W, Wo, blD]
@[simp] theorem w_and : W (mAnd t t' env) T ↔ W (t env) fun b e => (b = true → W (t' e) T) ∧ (b = false → T false e) := by
  unfold mAnd
  cases h : t env with
  | none => with_unfolding_all rfl
  | some x => obtain ⟨b, e⟩ := x; cases b <;> simp [W]
@[simp] theorem w_or : W (mOr t t' env) T ↔ W (t env) fun b e => (b = true → T true e) ∧ (b = false → W (t' e) T) := by
  unfold mOr
  cases h : t env with
  | none => with_unfolding_all rfl
  | some x => obtain ⟨b, e⟩ := x; cases b <;> simp [W]
@[simp] theorem w_not : W (mNot t env) T ↔ W (t env) fun b e => T (!b) e := by
  unfold mNot
  cases h : t env <;> with_unfolding_all rfl
@[simp] theorem w_bool : W (mBool t env) Q ↔ W (t env) fun b e => Q (.bl b) e := by
  unfold mBool
  cases h : t env <;> with_unfolding_all rfl
@[simp] theorem w_tru : W (mTru a env) T ↔ W (a.run env) fun x e1 => Wo (getA e1 x) fun d => Wo (truD d) fun b => T b e1 := by
  unfold mTru
  cases h : a.run env with
  | none => with_unfolding_all rfl
  | some x =>
    cases h3 : getA x.2 x.1 with
    | none => simp [W, Wo, h3]
    | some dx => cases h5 : truD dx <;> simp [W, Wo, h3, h5]
@[simp] theorem w_idx : W (mIdx m b env) Q ↔ W (m env) fun dx e1 => W (b.run e1) fun y e2 => Wo (getA e2 y) fun dy => Wo (idxS dx dy) fun d => Q d e2 := by
  unfold mIdx
  cases h : m env with
  | none => with_unfolding_all rfl
  | some x =>
    obtain ⟨dx, e1⟩ := x
    rw [W_some]
    dsimp only
    cases h2 : b.run e1 with
    | none => with_unfolding_all rfl
    | some y =>
      obtain ⟨y, e2⟩ := y
      rw [W_some]
      dsimp only
      cases h3 : getA e2 y with
      | none => simp [W, Wo]
      | some dy => cases h4 : idxS dx dy <;> simp [W, Wo, h4]
@[simp] theorem w_tupOnly : W (tupOnly m env) Q ↔ W (m env) fun d e => Wo (tupD d) fun ds => Q (.tup ds) e := by
  unfold tupOnly
  cases h : m env with
  | none => with_unfolding_all rfl
  | some x => obtain ⟨d, e⟩ := x; cases d <;> simp [W, Wo, tupD]
@[simp] theorem w_lstOnly : W (lstOnly m env) Q ↔ W (m env) fun d e => Wo (lstD d) fun ds => Q (.lst ds) e := by
  unfold lstOnly
  cases h : m env with
  | none => with_unfolding_all rfl
  | some x => obtain ⟨d, e⟩ := x; cases d <;> simp [W, Wo, lstD]
@[simp] theorem w_yes : W (mYes env) T ↔ T true env := by with_unfolding_all exact Iff.rfl
@[simp] theorem w_chain {f' : D → D → Option D} : W (mChain f f' a b c env) Q ↔ W (a.run env) fun x e1 => W (b.run e1) fun y e2 => Wo (getA e2 x) fun dx => Wo (getA e2 y) fun dy => Wo (f dx dy) fun d => Wo (blD d) fun k =>
    (k = true → W (c.run e2) fun z e3 => Wo (getA e3 y) fun dy' => Wo (getA e3 z) fun dz => Wo (f' dy' dz) fun d => Q d e3) ∧ (k = false → Q (.bl false) e2) := by
  unfold mChain
  cases h : a.run env with
  | none => with_unfolding_all rfl
  | some x =>
    obtain ⟨x, e1⟩ := x
    rw [W_some]
    dsimp only
    cases h2 : b.run e1 with
    | none => with_unfolding_all rfl
    | some y =>
      obtain ⟨y, e2⟩ := y
      rw [W_some]
      dsimp only
      cases h3 : getA e2 x with
      | none => simp [W, Wo]
      | some dx =>
        rw [Wo_some]
        dsimp only
        cases h4 : getA e2 y with
        | none => simp [W, Wo]
        | some dy =>
          rw [Wo_some]
          dsimp only
          cases h5 : f dx dy with
          | none => simp [W, Wo]
          | some d =>
            rw [Wo_some]
            cases d with
            | bl k =>
              cases k with
              | true =>
                dsimp only [blD]
                rw [Wo_some]
                simp only [true_implies, Bool.true_eq_false, false_implies, and_true, reduceCtorEq]
                cases h6 : c.run e2 with
                | none => with_unfolding_all rfl
                | some z =>
                  obtain ⟨z, e3⟩ := z
                  rw [W_some]
                  dsimp only
                  cases h7 : getA e3 y with
                  | none => simp [W, Wo]
                  | some dy' =>
                    rw [Wo_some]
                    dsimp only
                    cases h8 : getA e3 z with
                    | none => simp [W, Wo]
                    | some dz =>
                      rw [Wo_some]
                      dsimp only
                      cases h9 : f' dy' dz <;> simp [W, Wo]
              | false => simp [W, Wo, blD]
            | _ => simp [W, Wo, blD]
/-! targets, statements -/
@[simp] theorem wo_gN {R : Env → Prop} {d : D} : Wo (gN i d env) R ↔ Wo (setV i d env) R := by with_unfolding_all exact Iff.rfl
@[simp] theorem wo_gT {R : Env → Prop} {ds : List D} {gs : List D → Env → Option Env} : Wo (gT n gs (.tup ds) env) R ↔ ds.length = n ∧ Wo (gs ds env) R := by
  unfold gT
  dsimp only
  split <;> simp_all [Wo]
@[simp] theorem wo_gnil {R : Env → Prop} : Wo (gNil' [] env) R ↔ R env := by with_unfolding_all exact Iff.rfl
@[simp] theorem wo_gcons {R : Env → Prop} {d : D} {ds : List D} {gs : List D → Env → Option Env} : Wo (gCons' g gs (d :: ds) env) R ↔ Wo (g d env) fun e => Wo (gs ds e) R := by
  unfold gCons'
  dsimp only
  cases h : g d env <;> with_unfolding_all rfl
def seqK (b : MS) (S : Fl → Env → Prop) : Fl → Env → Prop
  | .nx, e => W (b e) S
  | fl, e => S fl e
theorem w_seq (h : W (s env) (seqK s' S)) : W (mSeq s s' env) S := by
  unfold mSeq
  cases hs : s env with
  | none => rw [hs] at h; exact (W_none.mp h).elim
  | some x =>
    obtain ⟨fl, e⟩ := x
    rw [hs] at h
    cases fl <;> with_unfolding_all exact h
@[simp] theorem w_asg : W (mAsg m g env) S ↔ W (m env) fun d e => Wo (g d e) fun e' => S .nx e' := by
  unfold mAsg
  cases h : m env with
  | none => with_unfolding_all rfl
  | some x => cases h2 : g x.1 x.2 <;> simp [W, Wo, h2]
@[simp] theorem w_asgO : W (mAsgO m i env) S ↔ W (m env) fun d e => Wo (setO i d e) fun e' => S .nx e' := by
  unfold mAsgO setO
  cases h : m env with
  | none => with_unfolding_all rfl
  | some x =>
    obtain ⟨d, e⟩ := x
    rw [W_some]
    dsimp only
    rcases e[i]? with _ | _ | _ | ⟨_ | _, _⟩ <;> with_unfolding_all rfl
@[simp] theorem w_ret : W (mRet m env) S ↔ W (m env) fun d e => S (.rt d) e := by
  unfold mRet
  cases h : m env <;> with_unfolding_all rfl
@[simp] theorem w_retO : W (mRetO m env) S ↔ W (m env) fun d e => S (.ro d) e := by
  unfold mRetO
  cases h : m env <;> with_unfolding_all rfl
@[simp] theorem w_retN : W (mRetN env) S ↔ S (.rt .non) env := by with_unfolding_all exact Iff.rfl
@[simp] theorem w_retS : W (mRetS i env) S ↔ W (ownAt env i) fun b d => b = false ∧ S (.ro d) env := by
  unfold mRetS ownAt
  cases h : env[i]? with
  | none => simp [W]
  | some s =>
    cases s with
    | own b d => cases b <;> simp [W]
    | _ => simp [W]
@[simp] theorem w_expr : W (mExpr m env) S ↔ W (m env) fun _ e => S .nx e := by
  unfold mExpr
  cases h : m env <;> with_unfolding_all rfl
@[simp] theorem w_ifS : W (mIfS t s s' env) S ↔ W (t env) fun b e => (b = true → W (s e) S) ∧ (b = false → W (s' e) S) := by
  unfold mIfS
  cases h : t env with
  | none => with_unfolding_all rfl
  | some x => obtain ⟨b, e⟩ := x; cases b <;> simp [W]
@[simp] theorem w_pass : W (mPass env) S ↔ S .nx env := by with_unfolding_all exact Iff.rfl
@[simp] theorem w_break : W (mBreak env) S ↔ S .bk env := by with_unfolding_all exact Iff.rfl
@[simp] theorem w_cont : W (mCont env) S ↔ S .ct env := by with_unfolding_all exact Iff.rfl
@[simp] theorem w_frz : W (mFrz i s env) S ↔ W (s (frz i env)) S := by
  unfold mFrz frz
  rcases env[i]? with _ | _ | _ | ⟨_ | _, _⟩ <;> with_unfolding_all rfl
@[simp] theorem w_set {mv : ME} : W (mSet i m mv env) S ↔ W (mv env) fun dv e1 => W (ownAt e1 i) fun _ _ => W (m e1) fun di e2 => W (ownAt e2 i) fun b d0 => Wo (setF d0 di dv) fun d1 => S .nx (e2.set i (.own b d1)) := by
  unfold mSet
  cases h : mv env with
  | none => with_unfolding_all rfl
  | some z =>
    obtain ⟨dv, e1⟩ := z
    rw [W_some]
    dsimp only
    cases h0 : e1[i]? with
    | none => simp [ownAt, h0, W]
    | some s0 =>
      cases s0 with
      | un => simp [ownAt, h0, W]
      | val d => simp [ownAt, h0, W]
      | own b d =>
        have e0 : ownAt e1 i = some (b, d) := by simp [ownAt, h0]
        rw [e0, W_some]
        dsimp only
        cases h : m e1 with
        | none => with_unfolding_all rfl
        | some x =>
          obtain ⟨di, e2⟩ := x
          rw [W_some]
          dsimp only
          cases h1 : e2[i]? with
          | none => simp [ownAt, h1, W]
          | some s1 =>
            cases s1 with
            | un => simp [ownAt, h1, W]
            | val d => simp [ownAt, h1, W]
            | own b1 d1 =>
              have e1' : ownAt e2 i = some (b1, d1) := by simp [ownAt, h1]
              rw [e1', W_some]
              dsimp only
              cases h4 : setF d1 di dv <;> simp [W, Wo]
/-! slices -/
@[simp] theorem w_oN {R : Option Int → Env → Prop} : W (oNone env) R ↔ R none env := by with_unfolding_all exact Iff.rfl
@[simp] theorem w_oS {R : Option Int → Env → Prop} : W (oSome m env) R ↔ W (m env) fun d e => Wo (intD d) fun i => R (some i) e := by
  unfold oSome
  cases h : m env with
  | none => with_unfolding_all rfl
  | some x => obtain ⟨d, e⟩ := x; cases d <;> simp [W, Wo, intD]
@[simp] theorem w_sl {l h : MO} : W (mSl a l h env) Q ↔ W (a.run env) fun x e1 => W (l e1) fun lo e2 => W (h e2) fun hi e3 => Wo (getA e3 x) fun dx => Wo (slD dx lo hi) fun d => Q d e3 := by
  unfold mSl
  cases h1 : a.run env with
  | none => with_unfolding_all rfl
  | some x =>
    obtain ⟨x, e1⟩ := x
    rw [W_some]
    dsimp only
    cases h2 : l e1 with
    | none => with_unfolding_all rfl
    | some y =>
      obtain ⟨lo, e2⟩ := y
      rw [W_some]
      dsimp only
      cases h3 : h e2 with
      | none => with_unfolding_all rfl
      | some z =>
        obtain ⟨hi, e3⟩ := z
        rw [W_some]
        dsimp only
        cases h4 : getA e3 x with
        | none => simp [W, Wo]
        | some dx => cases h5 : slD dx lo hi <;> simp [W, Wo, h5]
/-! what is walked -/
@[simp] theorem w_itSeq : W (itSeq m env) I ↔ W (m env) fun d e => Wo (seqOf d) fun ds => I ds e := by
  unfold itSeq
  cases h : m env with
  | none => with_unfolding_all rfl
  | some x => cases h2 : seqOf x.1 <;> simp [W, Wo, h2]
@[simp] theorem w_itEnum : W (itEnum m env) I ↔ W (m env) fun d e => Wo (itemsOf d) fun ds => I (enumL 0 ds) e := by
  unfold itEnum
  cases h : m env with
  | none => with_unfolding_all rfl
  | some x => cases h2 : itemsOf x.1 <;> simp [W, Wo, h2]
@[simp] theorem w_itZip : W (itZip m m' env) I ↔ W (m env) fun d e => W (m' e) fun d' e' => Wo (itemsOf d) fun ds => Wo (itemsOf d') fun ds' => I (zipL ds ds') e' := by
  unfold itZip
  cases h : m env with
  | none => with_unfolding_all rfl
  | some x =>
    obtain ⟨d, e⟩ := x
    rw [W_some]
    dsimp only
    cases h2 : m' e with
    | none => with_unfolding_all rfl
    | some y =>
      obtain ⟨d', e'⟩ := y
      rw [W_some]
      dsimp only
      cases h3 : itemsOf d with
      | none => simp [W, Wo]
      | some ds => cases h4 : itemsOf d' <;> simp [W, Wo]
@[simp] theorem w_itRng1 : W (itRng1 a env) I ↔ W (runArgs [a] env) fun rs e => Wo (getAll e rs) fun ds => Wo (rng1 ds) fun l => I l e := by
  unfold itRng1 rng1
  cases h : runArgs [a] env with
  | none => with_unfolding_all rfl
  | some x =>
    obtain ⟨rs, e⟩ := x
    rw [W_some]
    dsimp only
    cases h2 : getAll e rs with
    | none => with_unfolding_all rfl
    | some ds =>
      rw [Wo_some]
      split
      · rename_i hd; cases hd
        dsimp only
        split <;> with_unfolding_all rfl
      · rename_i hd
        split
        · exact absurd rfl (hd _)
        · with_unfolding_all rfl
@[simp] theorem w_itRng2 : W (itRng2 a b env) I ↔ W (runArgs [a, b] env) fun rs e => Wo (getAll e rs) fun ds => Wo (rng2 ds) fun l => I l e := by
  unfold itRng2 rng2
  cases h : runArgs [a, b] env with
  | none => with_unfolding_all rfl
  | some x =>
    obtain ⟨rs, e⟩ := x
    rw [W_some]
    dsimp only
    cases h2 : getAll e rs with
    | none => with_unfolding_all rfl
    | some ds =>
      rw [Wo_some]
      split
      · rename_i hd; cases hd
        dsimp only
        split <;> with_unfolding_all rfl
      · rename_i hd
        split
        · exact absurd rfl (hd _ _)
        · with_unfolding_all rfl
theorem w_for : W (mFor mi g s env) S ↔ W (mi env) fun ds e => W (mForL g s ds e) S := by
  unfold mFor
  cases h : mi env <;> with_unfolding_all rfl
theorem w_lc : W (mLc mi g t m vs env) Q ↔ W (mi env) fun ds e => plainAt e vs = true ∧ ds.length ≤ 100000 ∧ W (mLcL g t m vs ds [] (wipeE e vs)) fun acc e2 => Q (.lst acc) (backE e e2 vs) := by
  unfold mLc
  cases h : mi env with
  | none => with_unfolding_all rfl
  | some x =>
    obtain ⟨ds, e⟩ := x
    rw [W_some]
    dsimp only
    split
    · rename_i hc
      simp only [hc.1, hc.2, true_and]
      cases mLcL g t m vs ds [] (wipeE e vs) <;> with_unfolding_all rfl
    · rename_i hc
      simp only [W_none, false_iff]
      exact fun z => hc ⟨z.1, z.2.1⟩
/-! loops -/
@[simp] theorem wforL_nil : W (mForL g s [] env) S ↔ S .nx env := by with_unfolding_all exact Iff.rfl
def forK (g : MG) (b : MS) (ds : List D) (S : Fl → Env → Prop) : Fl → Env → Prop
  | .nx, e => W (mForL g b ds e) S
  | .ct, e => W (mForL g b ds e) S
  | .bk, e => S .nx e
  | .rt r, e => S (.rt r) e
  | .ro _, _ => False
theorem wforL_cons {d : D} {ds : List D} : W (mForL g s (d :: ds) env) S ↔ Wo (g d env) fun e1 => W (s e1) (forK g s ds S) := by
  conv => lhs; unfold mForL
  cases h : g d env with
  | none => with_unfolding_all rfl
  | some e1 =>
    rw [Wo_some]
    dsimp only
    cases h2 : s e1 with
    | none => with_unfolding_all rfl
    | some x =>
      obtain ⟨fl, e2⟩ := x
      rw [W_some]
      cases fl <;> with_unfolding_all rfl
/-- a loop that runs to its end, or stops with an answer that is right -/
theorem wfor_inv {ds : List D} (J : Nat → Env → Prop) (h0 : J 0 env) (hs : ∀ i d e, ds[i]? = some d → J i e → Wo (g d e) fun e1 => W (s e1) fun fl e2 => match fl with
    | .nx => J (i + 1) e2 | .ct => J (i + 1) e2 | .bk => S .nx e2 | .rt r => S (.rt r) e2 | .ro _ => False) (hn : ∀ e, J ds.length e → S .nx e) : W (mForL g s ds env) S := by
  have key : ∀ (rest : List D) (i : Nat) (e : Env), ds.drop i = rest → i ≤ ds.length → J i e → W (mForL g s rest e) S := by
    intro rest
    induction rest with
    | nil =>
      intro i e hd hi hJ
      have : ds.length ≤ i := List.drop_eq_nil_iff.mp hd
      have hi' : i = ds.length := by omega
      subst hi'
      with_unfolding_all exact hn e hJ
    | cons d rest ih =>
      intro i e hd hi hJ
      have hlt : i < ds.length := by
        by_cases h : i < ds.length
        · exact h
        · rw [List.drop_eq_nil_of_le (by omega)] at hd; cases hd
      have hc := List.drop_eq_getElem_cons hlt
      rw [hd] at hc
      injection hc with hc1 hc2
      have hg : ds[i]? = some d := by rw [List.getElem?_eq_getElem hlt, hc1]
      rw [wforL_cons]
      refine (hs i d e hg hJ).mono fun e1 h1 => h1.mono fun fl e2 h2 => ?_
      cases fl with
      | nx => exact ih (i + 1) e2 hc2.symm hlt h2
      | ct => exact ih (i + 1) e2 hc2.symm hlt h2
      | bk => exact h2
      | rt r => exact h2
      | ro r => exact h2
  exact key ds 0 env rfl (Nat.zero_le _) h0
/-- a comprehension that keeps all -/
theorem wlc_inv {ds : List D} {R : List D → Env → Prop} (J : Nat → List D → Env → Prop) (h0 : J 0 [] env) (hs : ∀ i d acc e, ds[i]? = some d → J i acc e → Wo (g d e) fun e1 => W (t e1) fun b e2 => (b = true → W (m e2) fun y e3 => J (i + 1) (acc ++ [y]) (wipeE e3 vs)) ∧ (b = false → J (i + 1) acc (wipeE e2 vs)))
    (hn : ∀ acc e, J ds.length acc e → R acc e) : W (mLcL g t m vs ds [] env) R := by
  have key : ∀ (rest : List D) (i : Nat) (acc : List D) (e : Env), ds.drop i = rest → i ≤ ds.length → J i acc e → W (mLcL g t m vs rest acc e) R := by
    intro rest
    induction rest with
    | nil =>
      intro i acc e hd hi hJ
      have : ds.length ≤ i := List.drop_eq_nil_iff.mp hd
      have hi' : i = ds.length := by omega
      subst hi'
      with_unfolding_all exact hn acc e hJ
    | cons d rest ih =>
      intro i acc e hd hi hJ
      have hlt : i < ds.length := by
        by_cases h : i < ds.length
        · exact h
        · rw [List.drop_eq_nil_of_le (by omega)] at hd; cases hd
      have hc := List.drop_eq_getElem_cons hlt
      rw [hd] at hc
      injection hc with hc1 hc2
      have hg : ds[i]? = some d := by rw [List.getElem?_eq_getElem hlt, hc1]
      have := hs i d acc e hg hJ
      unfold mLcL
      obtain ⟨e1, h1, h1'⟩ := this.ex
      rw [h1]
      dsimp only
      obtain ⟨b, e2, h2, h2'⟩ := h1'.ex
      rw [h2]
      cases b with
      | true =>
        dsimp only
        obtain ⟨y, e3, h3, h3'⟩ := (h2'.1 rfl).ex
        rw [h3]
        exact ih (i + 1) (acc ++ [y]) _ hc2.symm hlt h3'
      | false => exact ih (i + 1) acc _ hc2.symm hlt (h2'.2 rfl)
  exact key ds 0 [] env rfl (Nat.zero_le _) h0
/-! a while by a measure -/
theorem wwhile {fuel : Nat} (J : Nat → Env → Prop) (h0 : ∃ k, k < fuel ∧ J k env) (hs : ∀ k e, J k e → W (t e) fun b e1 => (b = true → W (s e1) fun fl e2 => match fl with
    | .nx => ∃ k', k' < k ∧ J k' e2 | .ct => ∃ k', k' < k ∧ J k' e2 | .bk => S .nx e2 | .rt r => S (.rt r) e2 | .ro _ => False) ∧ (b = false → S .nx e1)) : W (mWhile t s fuel env) S := by
  induction fuel generalizing env with
  | zero => obtain ⟨k, hk, _⟩ := h0; omega
  | succ n ih =>
    obtain ⟨k, hk, hJ⟩ := h0
    unfold mWhile
    obtain ⟨b, e1, h1, h1'⟩ := (hs k env hJ).ex
    rw [h1]
    cases b with
    | true =>
      dsimp only
      obtain ⟨fl, e2, h2, h2'⟩ := (h1'.1 rfl).ex
      rw [h2]
      cases fl with
      | nx => obtain ⟨k', hk', hJ'⟩ := h2'; exact ih ⟨k', by omega, hJ'⟩
      | ct => obtain ⟨k', hk', hJ'⟩ := h2'; exact ih ⟨k', by omega, hJ'⟩
      | bk => with_unfolding_all exact h2'
      | rt r => with_unfolding_all exact h2'
      | ro r => with_unfolding_all exact h2'
    | false => with_unfolding_all exact h1'.2 rfl
/-! defs -/
def retOf : Fl → Option D
  | .rt d => some d
  | .nx => some .non
  | _ => none
def roOf : Fl → Option D
  | .ro d => some d
  | _ => none
theorem w_run0 {n k : Nat} {ds : List D} {R : D → Prop} (hl : ds.length = k) (h : W (s (ds.map Sl.val ++ List.replicate (n - k) Sl.un)) fun fl _ => Wo (retOf fl) R) : Wo (runFn0 n k s ds) R := by
  unfold runFn0
  rw [if_pos hl]
  obtain ⟨fl, e, h1, h2⟩ := h.ex
  rw [h1]
  cases fl <;> with_unfolding_all exact h2
theorem w_runN {n k : Nat} {ds : List D} {R : D → Prop} (hl : ds.length = k) (h : W (s (ds.map Sl.val ++ List.replicate (n - k) Sl.un)) fun fl _ => Wo (roOf fl) R) : Wo (runFnN n k s ds) R := by
  unfold runFnN
  rw [if_pos hl]
  obtain ⟨fl, e, h1, h2⟩ := h.ex
  rw [h1]
  cases fl <;> with_unfolding_all exact h2
theorem w_run1 {n k : Nat} {d0 : D} {ds : List D} {R : D → D → Prop} (hl : ds.length = k) (h : W (s (Sl.own true d0 :: (ds.map Sl.val ++ List.replicate (n - (k + 1)) Sl.un))) fun fl e => Wo (retOf fl) fun d => W (ownAt e 0) fun b d1 => b = true ∧ R d d1) : W (runFn1 n k s (d0 :: ds)) R := by
  unfold runFn1
  dsimp only
  rw [if_pos hl]
  obtain ⟨fl, e, h1, h2⟩ := h.ex
  rw [h1]
  obtain ⟨d, h3, h4⟩ := h2.ex
  obtain ⟨b, d1, h5, rfl, h6⟩ := h4.ex
  unfold ownAt at h5
  cases e with
  | nil => simp at h5
  | cons s0 rest =>
    cases s0 with
    | own b d => simp at h5; obtain ⟨rfl, rfl⟩ := h5; cases fl <;> first | (cases h3; with_unfolding_all exact h6) | (cases h3)
    | _ => simp at h5
end
end Mir
/-! Single steps over data, for simp. -/
namespace Mir
open PySem L2
section
variable {e : Env} {s : Sl} {i n : Nat} {d x : D} {b : Bool} {α β : Type}
@[simp] theorem valAt_z : valAt (.val d :: e) 0 = some d := rfl
@[simp] theorem valAt_s : valAt (s :: e) (i + 1) = valAt e i := by simp [valAt]
@[simp] theorem ownAt_z : ownAt (.own b d :: e) 0 = some (b, d) := rfl
@[simp] theorem ownAt_s : ownAt (s :: e) (i + 1) = ownAt e i := by simp [ownAt]
@[simp] theorem slotD_v : slotD (.val d :: e) 0 = some d := rfl
@[simp] theorem slotD_o : slotD (.own b d :: e) 0 = some d := rfl
@[simp] theorem slotD_s : slotD (s :: e) (i + 1) = slotD e i := by simp [slotD]
@[simp] theorem setV_v {R : Env → Prop} : Wo (setV 0 d (.val x :: e)) R ↔ R (.val d :: e) := by with_unfolding_all exact Iff.rfl
@[simp] theorem setV_u {R : Env → Prop} : Wo (setV 0 d (.un :: e)) R ↔ R (.val d :: e) := by with_unfolding_all exact Iff.rfl
@[simp] theorem setV_o {R : Env → Prop} : Wo (setV 0 d (.own false x :: e)) R ↔ R (.val d :: e) := by with_unfolding_all exact Iff.rfl
@[simp] theorem setV_s {R : Env → Prop} : Wo (setV (i + 1) d (s :: e)) R ↔ Wo (setV i d e) fun e' => R (s :: e') := by
  unfold setV
  rw [List.getElem?_cons_succ]
  rcases e[i]? with _ | _ | _ | ⟨_ | _, _⟩ <;> with_unfolding_all rfl
@[simp] theorem setO_v {R : Env → Prop} : Wo (setO 0 d (.val x :: e)) R ↔ R (.own false d :: e) := by with_unfolding_all exact Iff.rfl
@[simp] theorem setO_u {R : Env → Prop} : Wo (setO 0 d (.un :: e)) R ↔ R (.own false d :: e) := by with_unfolding_all exact Iff.rfl
@[simp] theorem setO_o {R : Env → Prop} : Wo (setO 0 d (.own false x :: e)) R ↔ R (.own false d :: e) := by with_unfolding_all exact Iff.rfl
@[simp] theorem setO_s {R : Env → Prop} : Wo (setO (i + 1) d (s :: e)) R ↔ Wo (setO i d e) fun e' => R (s :: e') := by
  unfold setO
  rw [List.getElem?_cons_succ]
  rcases e[i]? with _ | _ | _ | ⟨_ | _, _⟩ <;> with_unfolding_all rfl
@[simp] theorem frz_o : frz 0 (.own false d :: e) = .val d :: e := rfl
@[simp] theorem frz_v : frz 0 (.val d :: e) = .val d :: e := rfl
@[simp] theorem frz_u : frz 0 (.un :: e) = .un :: e := rfl
@[simp] theorem frz_t : frz 0 (.own true d :: e) = .own true d :: e := rfl
@[simp] theorem frz_s : frz (i + 1) (s :: e) = s :: frz i e := by
  unfold frz
  rw [List.getElem?_cons_succ]
  rcases e[i]? with _ | _ | _ | ⟨_ | _, _⟩ <;> with_unfolding_all rfl
@[simp] theorem set_z : List.set (s :: e) 0 x' = x' :: e := rfl
@[simp] theorem set_s {s' : Sl} : List.set (s :: e) (i + 1) s' = s :: List.set e i s' := rfl
@[simp] theorem seqK_nx {m : MS} {S : Fl → Env → Prop} : seqK m S .nx e ↔ W (m e) S := by with_unfolding_all exact Iff.rfl
@[simp] theorem seqK_rt {m : MS} {S : Fl → Env → Prop} : seqK m S (.rt d) e ↔ S (.rt d) e := by with_unfolding_all exact Iff.rfl
@[simp] theorem seqK_ro {m : MS} {S : Fl → Env → Prop} : seqK m S (.ro d) e ↔ S (.ro d) e := by with_unfolding_all exact Iff.rfl
@[simp] theorem seqK_bk {m : MS} {S : Fl → Env → Prop} : seqK m S .bk e ↔ S .bk e := by with_unfolding_all exact Iff.rfl
@[simp] theorem seqK_ct {m : MS} {S : Fl → Env → Prop} : seqK m S .ct e ↔ S .ct e := by with_unfolding_all exact Iff.rfl
theorem w_seqI {a c : MS} {S : Fl → Env → Prop} : W (mSeq a c e) S ↔ W (a e) (seqK c S) := by
  unfold mSeq
  cases hs : a e with
  | none => with_unfolding_all exact Iff.rfl
  | some z =>
    obtain ⟨fl, e'⟩ := z
    cases fl <;> with_unfolding_all exact Iff.rfl
@[simp] theorem forK_nx {g : MG} {m : MS} {ds : List D} {S : Fl → Env → Prop} : forK g m ds S .nx e ↔ W (mForL g m ds e) S := by with_unfolding_all exact Iff.rfl
@[simp] theorem forK_ct {g : MG} {m : MS} {ds : List D} {S : Fl → Env → Prop} : forK g m ds S .ct e ↔ W (mForL g m ds e) S := by with_unfolding_all exact Iff.rfl
@[simp] theorem forK_bk {g : MG} {m : MS} {ds : List D} {S : Fl → Env → Prop} : forK g m ds S .bk e ↔ S .nx e := by with_unfolding_all exact Iff.rfl
@[simp] theorem forK_rt {g : MG} {m : MS} {ds : List D} {S : Fl → Env → Prop} : forK g m ds S (.rt d) e ↔ S (.rt d) e := by with_unfolding_all exact Iff.rfl
@[simp] theorem retOf_rt : retOf (.rt d) = some d := rfl
@[simp] theorem retOf_nx : retOf .nx = some .non := rfl
@[simp] theorem roOf_ro : roOf (.ro d) = some d := rfl
@[simp] theorem lstD_l {ds : List D} : lstD (.lst ds) = some ds := rfl
@[simp] theorem strD_s {t : Str} : strD (.str t) = some t := rfl
@[simp] theorem intD_i {k : Int} : intD (.int k) = some k := rfl
@[simp] theorem blD_b : blD (.bl b) = some b := rfl
@[simp] theorem seqOf_l {ds : List D} : seqOf (.lst ds) = some ds := rfl
@[simp] theorem seqOf_t {ds : List D} : seqOf (.tup ds) = some ds := rfl
@[simp] theorem seqOf_c {ns : List Int} : seqOf (.scr ns) = some (ns.map D.int) := rfl
@[simp] theorem itemsOf_l {ds : List D} : itemsOf (.lst ds) = some ds := rfl
@[simp] theorem itemsOf_t {ds : List D} : itemsOf (.tup ds) = some ds := rfl
end
section
variable {R : D → Prop} {i j : Int} {x : D} {ds es : List D}
@[simp] theorem wo_add : Wo (addD (.int i) (.int j)) R ↔ R (.int (i + j)) := by with_unfolding_all exact Iff.rfl
@[simp] theorem wo_addT : Wo (addD (.tup ds) (.tup es)) R ↔ ds.length + es.length ≤ 100000 ∧ R (.tup (ds ++ es)) := Wo_if
@[simp] theorem wo_addL : Wo (addD (.lst ds) (.lst es)) R ↔ ds.length + es.length ≤ 100000 ∧ R (.lst (ds ++ es)) := Wo_if
@[simp] theorem wo_addS {s t : Str} : Wo (addD (.str s) (.str t)) R ↔ s.length + t.length ≤ 100000 ∧ R (.str (s ++ t)) := Wo_if
@[simp] theorem wo_mul : Wo (mulD (.int i) (.int j)) R ↔ i.natAbs.log2 + j.natAbs.log2 < 1000000 ∧ R (.int (i * j)) := Wo_if
@[simp] theorem wo_sub : Wo (subD (.int i) (.int j)) R ↔ R (.int (i - j)) := by with_unfolding_all exact Iff.rfl
theorem wo_int2 {c : Int → Int → Bool} {g : Int → Int → Int} : Wo (int2 c g (.int i) (.int j)) R ↔ c i j = true ∧ R (.int (g i j)) := Wo_if
@[simp] theorem wo_fdiv : Wo (fdivD (.int i) (.int j)) R ↔ (0 < j ∧ j.natAbs.log2 < 9000) ∧ R (.int (i / j)) := by
  unfold fdivD; rw [wo_int2, decide_eq_true_eq]
@[simp] theorem wo_mod : Wo (modD (.int i) (.int j)) R ↔ 0 < j ∧ R (.int (i % j)) := by
  unfold modD; rw [wo_int2, decide_eq_true_eq]
@[simp] theorem wo_pow : Wo (powD (.int i) (.int j)) R ↔ (0 ≤ j ∧ j ≤ 1000000 ∧ i.natAbs < 2 ^ 64) ∧ R (.int (i ^ j.toNat)) := by
  unfold powD; rw [wo_int2, decide_eq_true_eq]
@[simp] theorem wo_neg : Wo (negD (.int i)) R ↔ R (.int (-i)) := by with_unfolding_all exact Iff.rfl
@[simp] theorem wo_lt : Wo (ltD (.int i) (.int j)) R ↔ R (.bl (decide (i < j))) := by with_unfolding_all exact Iff.rfl
@[simp] theorem wo_le : Wo (leD (.int i) (.int j)) R ↔ R (.bl (decide (i ≤ j))) := by with_unfolding_all exact Iff.rfl
@[simp] theorem wo_gt : Wo (gtD (.int i) (.int j)) R ↔ R (.bl (decide (j < i))) := by with_unfolding_all exact Iff.rfl
@[simp] theorem wo_ge : Wo (geD (.int i) (.int j)) R ↔ R (.bl (decide (j ≤ i))) := by with_unfolding_all exact Iff.rfl
@[simp] theorem wo_isN : Wo (isND x .non) R ↔ R (.bl (isN x)) := by with_unfolding_all exact Iff.rfl
@[simp] theorem wo_notN : Wo (notND x .non) R ↔ R (.bl (!isN x)) := by with_unfolding_all exact Iff.rfl
@[simp] theorem isN_non : isN .non = true := rfl
@[simp] theorem isN_int : isN (.int i) = false := rfl
@[simp] theorem isN_tup : isN (.tup ds) = false := rfl
@[simp] theorem isN_lst : isN (.lst ds) = false := rfl
@[simp] theorem isN_str {s : Str} : isN (.str s) = false := rfl
@[simp] theorem isN_bl {b : Bool} : isN (.bl b) = false := rfl
@[simp] theorem wo_eqI : Wo (eqD (.int i) (.int j)) R ↔ R (.bl (decide (i = j))) := by with_unfolding_all exact Iff.rfl
@[simp] theorem wo_neI : Wo (neD (.int i) (.int j)) R ↔ R (.bl (!decide (i = j))) := by with_unfolding_all exact Iff.rfl
@[simp] theorem wo_eqS {s t : Str} : Wo (eqD (.str s) (.str t)) R ↔ R (.bl (decide (s = t))) := by with_unfolding_all exact Iff.rfl
@[simp] theorem wo_neS {s t : Str} : Wo (neD (.str s) (.str t)) R ↔ R (.bl (!decide (s = t))) := by with_unfolding_all exact Iff.rfl
@[simp] theorem wo_lenL : Wo (lenF [.lst ds]) R ↔ R (.int (ds.length : Nat)) := by with_unfolding_all exact Iff.rfl
@[simp] theorem wo_lenT : Wo (lenF [.tup ds]) R ↔ R (.int (ds.length : Nat)) := by with_unfolding_all exact Iff.rfl
@[simp] theorem wo_lenC {ns : List Int} : Wo (lenF [.scr ns]) R ↔ R (.int (ns.length : Nat)) := by with_unfolding_all exact Iff.rfl
@[simp] theorem wo_abs : Wo (absF [.int i]) R ↔ R (.int (if i < 0 then -i else i)) := by with_unfolding_all exact Iff.rfl
@[simp] theorem wo_intI : Wo (intF [.int i]) R ↔ R (.int i) := by with_unfolding_all exact Iff.rfl
@[simp] theorem wo_intB {b : Bool} : Wo (intF [.bl b]) R ↔ R (.int (if b then 1 else 0)) := by with_unfolding_all exact Iff.rfl
@[simp] theorem wo_max2 : Wo (max2F [.int i, .int j]) R ↔ R (.int (if j > i then j else i)) := by with_unfolding_all exact Iff.rfl
@[simp] theorem wo_min2 : Wo (min2F [.int i, .int j]) R ↔ R (.int (if j < i then j else i)) := by with_unfolding_all exact Iff.rfl
@[simp] theorem wo_tupL : Wo (tupF [.lst ds]) R ↔ R (.tup ds) := by with_unfolding_all exact Iff.rfl
@[simp] theorem wo_tupT : Wo (tupF [.tup ds]) R ↔ R (.tup ds) := by with_unfolding_all exact Iff.rfl
@[simp] theorem wo_lstL : Wo (listF [.lst ds]) R ↔ R (.lst ds) := by with_unfolding_all exact Iff.rfl
@[simp] theorem wo_lstT : Wo (listF [.tup ds]) R ↔ R (.lst ds) := by with_unfolding_all exact Iff.rfl
@[simp] theorem wo_lstC {ns : List Int} : Wo (listF [.scr ns]) R ↔ R (.lst (ns.map D.int)) := by with_unfolding_all exact Iff.rfl
@[simp] theorem wo_lstAC {ns : List Int} : Wo (listFA [.scr ns]) R ↔ R (.lst (ns.map D.int)) := by with_unfolding_all exact Iff.rfl
@[simp] theorem wo_lstAL : Wo (listFA [.lst ds]) R ↔ R (.lst ds) := by with_unfolding_all exact Iff.rfl
@[simp] theorem wo_lstAT : Wo (listFA [.tup ds]) R ↔ R (.lst ds) := by with_unfolding_all exact Iff.rfl
@[simp] theorem wo_lstAS {z : Str} : Wo (listFA [.str z]) R ↔ z.length ≤ 100000 ∧ R (.lst (chrD z)) := Wo_if
@[simp] theorem truD_b {b : Bool} : truD (.bl b) = some b := rfl
@[simp] theorem truD_l : truD (.lst ds) = some (!ds.isEmpty) := rfl
@[simp] theorem truD_t : truD (.tup ds) = some (!ds.isEmpty) := rfl
@[simp] theorem truD_n : truD .non = some false := rfl
@[simp] theorem w_app {Q : D → D → Prop} : W (appF (.lst ds) [x]) Q ↔ ds.length < 100000 ∧ Q .non (.lst (ds ++ [x])) := W_if
@[simp] theorem w_rng1 {S : List D → Prop} : Wo (rng1 [.int j]) S ↔ (-(2 ^ 62) ≤ j ∧ j < 2 ^ 62) ∧ S (rngL 0 j.toNat) := Wo_if
@[simp] theorem w_rng2 {S : List D → Prop} : Wo (rng2 [.int i, .int j]) S ↔ ((-(2 ^ 62) ≤ i ∧ i < 2 ^ 62) ∧ -(2 ^ 62) ≤ j ∧ j < 2 ^ 62) ∧ S (rngL i (j - i).toNat) := Wo_if
theorem intsOf_map : ∀ ns : List Int, intsOf (ns.map D.int) = some ns
  | [] => rfl
  | n :: ns => by simp [intsOf, intsOf_map ns]
@[simp] theorem wo_sum {ns : List Int} : Wo (sumF [.lst (ns.map D.int)]) R ↔ R (.int ns.sum) := by
  simp [sumF, intsOf_map]
@[simp] theorem wo_slT {lo hi : Option Int} : Wo (slD (.tup ds) lo hi) R ↔ R (.tup (cutD ds lo hi)) := by with_unfolding_all exact Iff.rfl
@[simp] theorem wo_slL {lo hi : Option Int} : Wo (slD (.lst ds) lo hi) R ↔ R (.lst (cutD ds lo hi)) := by with_unfolding_all exact Iff.rfl
/-! items -/
theorem ixN_pos {n : Nat} (h0 : 0 ≤ i) (h1 : i < n) : L2.ixN n i = some i.toNat := by
  unfold L2.ixN; rw [if_pos h0, if_pos h1]
theorem wo_ixL {d : D} (h0 : 0 ≤ i) (h : ds[i.toNat]? = some d) : Wo (ixD (.lst ds) (.int i)) R ↔ R d := by
  have hl : i.toNat < ds.length := (List.getElem?_eq_some_iff.mp h).1
  simp [ixD, L2.atI, ixN_pos h0 (by omega : i < ds.length), h]
theorem wo_ixT {d : D} (h0 : 0 ≤ i) (h : ds[i.toNat]? = some d) : Wo (ixD (.tup ds) (.int i)) R ↔ R d := by
  have hl : i.toNat < ds.length := (List.getElem?_eq_some_iff.mp h).1
  simp [ixD, L2.atI, ixN_pos h0 (by omega : i < ds.length), h]
theorem wo_set {j : Nat} (h : L2.ixN ds.length i = some j) : Wo (setF (.lst ds) (.int i) x) R ↔ R (.lst (ds.set j x)) := by
  simp [setF, h]
@[simp] theorem ix0 {a : D} : Wo (ixD (.tup (a :: ds)) (.int 0)) R ↔ R a := wo_ixT (by decide) rfl
@[simp] theorem ix1 {a b : D} : Wo (ixD (.tup (a :: b :: ds)) (.int 1)) R ↔ R b := wo_ixT (by decide) rfl
@[simp] theorem ix2 {a b c : D} : Wo (ixD (.tup (a :: b :: c :: ds)) (.int 2)) R ↔ R c := wo_ixT (by decide) rfl
@[simp] theorem ix3 {a b c d : D} : Wo (ixD (.tup (a :: b :: c :: d :: ds)) (.int 3)) R ↔ R d := wo_ixT (by decide) rfl
@[simp] theorem ixl0 {a : D} : Wo (ixD (.lst (a :: ds)) (.int 0)) R ↔ R a := wo_ixL (by decide) rfl
@[simp] theorem ixl1 {a b : D} : Wo (ixD (.lst (a :: b :: ds)) (.int 1)) R ↔ R b := wo_ixL (by decide) rfl
@[simp] theorem ixl2 {a b c : D} : Wo (ixD (.lst (a :: b :: c :: ds)) (.int 2)) R ↔ R c := wo_ixL (by decide) rfl
@[simp] theorem ixl3 {a b c d : D} : Wo (ixD (.lst (a :: b :: c :: d :: ds)) (.int 3)) R ↔ R d := wo_ixL (by decide) rfl
@[simp] theorem st0 {a : D} : Wo (setF (.lst (a :: ds)) (.int 0) x) R ↔ R (.lst (x :: ds)) := wo_set (j := 0) (by simp [L2.ixN] <;> omega)
@[simp] theorem st1 {a b : D} : Wo (setF (.lst (a :: b :: ds)) (.int 1) x) R ↔ R (.lst (a :: x :: ds)) := wo_set (j := 1) (by simp [L2.ixN] <;> omega)
@[simp] theorem st2 {a b c : D} : Wo (setF (.lst (a :: b :: c :: ds)) (.int 2) x) R ↔ R (.lst (a :: b :: x :: ds)) := wo_set (j := 2) (by simp [L2.ixN] <;> omega)
@[simp] theorem st3 {a b c d : D} : Wo (setF (.lst (a :: b :: c :: d :: ds)) (.int 3) x) R ↔ R (.lst (a :: b :: c :: x :: ds)) := wo_set (j := 3) (by simp [L2.ixN] <;> omega)
end
end Mir
/-! Comprehensions and loops by what they give; lists of whole numbers; bits. -/
namespace Mir
open PySem L2
/-- a slot that holds no object of one's own -/
def Pl (s : Sl) : Prop := s = .un ∨ ∃ d, s = .val d
@[simp] theorem Pl_un : Pl .un := Or.inl rfl
@[simp] theorem Pl_val {d : D} : Pl (.val d) := Or.inr ⟨d, rfl⟩
section
variable {e : Env} {a : Sl} {d : D}
theorem setV_pl {R : Env → Prop} (h : Pl a) : Wo (setV 0 d (a :: e)) R ↔ R (.val d :: e) := by
  rcases h with rfl | ⟨x, rfl⟩ <;> with_unfolding_all exact Iff.rfl
theorem ownAt_pl (h : Pl a) : ownAt (a :: e) 0 = none := by
  rcases h with rfl | ⟨x, rfl⟩ <;> with_unfolding_all rfl
theorem setO_pl {R : Env → Prop} (h : Pl a) : Wo (setO 0 d (a :: e)) R ↔ R (.own false d :: e) := by
  rcases h with rfl | ⟨x, rfl⟩ <;> with_unfolding_all exact Iff.rfl
@[simp] theorem ownAt_v : ownAt (.val d :: e) 0 = none := rfl
@[simp] theorem ownAt_u : ownAt (.un :: e) 0 = none := rfl
@[simp] theorem plainAt_nil : plainAt e [] = true := rfl
@[simp] theorem plainAt_cons {v : Nat} {vs : List Nat} : plainAt e (v :: vs) = ((ownAt e v).isNone && plainAt e vs) := by
  unfold plainAt ownAt
  rw [List.all_cons]
  rcases e[v]? with _ | _ | _ | ⟨_ | _, _⟩ <;> with_unfolding_all rfl
@[simp] theorem wipeE_nil : wipeE e [] = e := rfl
@[simp] theorem wipeE_cons {v : Nat} {vs : List Nat} : wipeE e (v :: vs) = (wipeE e vs).set v .un := rfl
@[simp] theorem backE_nil {e0 : Env} : backE e0 e [] = e := rfl
def getS (e : Env) (i : Nat) : Sl := (e[i]?).getD .un
end
section
variable {env : Env} {Q : D → Env → Prop} {R : List D → Env → Prop} {S : Fl → Env → Prop} {m : ME} {t : MT} {g : MG} {s : MS} {mi : MI} {vs : List Nat}
/-- a comprehension whose element changes nothing -/
theorem wlc_pure {ds : List D} (f : D → D) (h : ∀ d ∈ ds, Wo (g d env) fun e1 => W (t e1) fun b e2 => b = true ∧ W (m e2) fun y e3 => y = f d ∧ wipeE e3 vs = env) (hn : R (ds.map f) env) : W (mLcL g t m vs ds [] env) R := by
  refine wlc_inv (fun i acc e => e = env ∧ acc = (ds.take i).map f) ⟨rfl, rfl⟩ (fun i d acc e hd ⟨he, ha⟩ => ?_) (fun acc e ⟨he, ha⟩ => ?_)
  · subst he
    have hi : i < ds.length := (List.getElem?_eq_some_iff.mp hd).1
    have hdi : ds[i] = d := (List.getElem?_eq_some_iff.mp hd).2
    refine (h d (List.mem_of_getElem? hd)).mono fun e1 h1 => h1.mono fun b e2 ⟨hb, h2⟩ => ⟨fun _ => h2.mono fun y e3 ⟨hy, h3⟩ => ⟨h3, ?_⟩, fun z => by rw [hb] at z; cases z⟩
    rw [ha, hy, List.take_add_one, List.getElem?_eq_getElem hi, hdi]
    simp
  · rw [he, ha, List.take_length]; exact hn
theorem wlc_pureE (f : D → D) (h : W (mi env) fun ds e => plainAt e vs = true ∧ ds.length ≤ 100000 ∧ (∀ d ∈ ds, Wo (g d (wipeE e vs)) fun e1 => W (t e1) fun b e2 => b = true ∧ W (m e2) fun y e3 => y = f d ∧ wipeE e3 vs = wipeE e vs) ∧ Q (.lst (ds.map f)) (backE e (wipeE e vs) vs)) : W (mLc mi g t m vs env) Q :=
  w_lc.mpr (h.mono fun ds e ⟨h1, h2, h3, h4⟩ => ⟨h1, h2, wlc_pure f h3 h4⟩)
/-- a comprehension whose element changes a state: the state's environment is E, the invariant I -/
theorem wlc_st {α : Type} {ds : List D} (E : α → Env) (I : Nat → α → Prop) (P : D → D → Prop) {a0 : α} (h0 : I 0 a0) (h : ∀ i d a, ds[i]? = some d → I i a → Wo (g d (E a)) fun e1 => W (t e1) fun b e2 => b = true ∧ W (m e2) fun y e3 => P d y ∧ ∃ a', wipeE e3 vs = E a' ∧ I (i + 1) a')
    (hn : ∀ acc a, I ds.length a → acc.length = ds.length → (∀ (i : Nat) (d y : D), ds[i]? = some d → acc[i]? = some y → P d y) → R acc (E a)) : W (mLcL g t m vs ds [] (E a0)) R := by
  refine wlc_inv (fun i acc e => (∃ a, e = E a ∧ I i a) ∧ acc.length = i ∧ ∀ (j : Nat) (d y : D), ds[j]? = some d → acc[j]? = some y → P d y) ⟨⟨a0, rfl, h0⟩, rfl, fun j d y _ z => by simp at z⟩ (fun i d acc e hd ⟨⟨a, he, ha⟩, hl, hp⟩ => ?_) (fun acc e ⟨⟨a, he, ha⟩, hl, hp⟩ => ?_)
  · subst he
    refine (h i d a hd ha).mono fun e1 h1 => h1.mono fun b e2 ⟨hb, h2⟩ => ⟨fun _ => h2.mono fun y e3 ⟨hy, a', h3, h4⟩ => ⟨⟨a', h3, h4⟩, by simp [hl], fun j d' y' hd' hy' => ?_⟩, fun z => by rw [hb] at z; cases z⟩
    by_cases hj : j < acc.length
    · rw [List.getElem?_append_left hj] at hy'
      exact hp j d' y' hd' hy'
    · rw [List.getElem?_append_right (by omega)] at hy'
      have hj0 : j - acc.length = 0 := by
        have := (List.getElem?_eq_some_iff.mp hy').1
        simp at this; omega
      rw [hj0] at hy'
      have : j = i := by omega
      subst this
      rw [hd] at hd'; cases hd'
      simp at hy'; subst hy'; exact hy
  · subst he; exact hn acc a ha hl hp
theorem wlc_stE {α : Type} (E : α → Env) (I : Nat → α → Prop) (P : D → D → Prop) (h : W (mi env) fun ds e => plainAt e vs = true ∧ ds.length ≤ 100000 ∧ ∃ a0, wipeE e vs = E a0 ∧ I 0 a0 ∧ (∀ i d a, ds[i]? = some d → I i a → Wo (g d (E a)) fun e1 => W (t e1) fun b e2 => b = true ∧ W (m e2) fun y e3 => P d y ∧ ∃ a', wipeE e3 vs = E a' ∧ I (i + 1) a') ∧
    ∀ acc a, I ds.length a → acc.length = ds.length → (∀ (i : Nat) (d y : D), ds[i]? = some d → acc[i]? = some y → P d y) → Q (.lst acc) (backE e (E a) vs)) : W (mLc mi g t m vs env) Q :=
  w_lc.mpr (h.mono fun ds e ⟨h1, h2, a0, h3, h4, h5, h6⟩ => ⟨h1, h2, by rw [h3]; exact wlc_st E I P h4 h5 h6⟩)
end
/-! lists of whole numbers -/
abbrev tI (xs : List Int) : D := .tup (xs.map D.int)
abbrev lI (xs : List Int) : D := .lst (xs.map D.int)
theorem allInt {acc : List D} {n : Nat} {P : Nat → Int → Prop} (hl : acc.length = n) (h : ∀ i (y : D), i < n → acc[i]? = some y → ∃ k, y = .int k ∧ P i k) : ∃ ks : List Int, acc = ks.map D.int ∧ ks.length = n ∧ ∀ i (k : Int), ks[i]? = some k → P i k := by
  induction acc generalizing n P with
  | nil => exact ⟨[], rfl, hl, fun i k z => by simp at z⟩
  | cons a acc ih =>
    cases n with
    | zero => simp at hl
    | succ n =>
      obtain ⟨k, hk, hp⟩ := h 0 a (by omega) rfl
      obtain ⟨ks, h1, h2, h3⟩ := ih (n := n) (P := fun i => P (i + 1)) (by simpa using hl) fun i y hi hy => h (i + 1) y (by omega) (by simpa using hy)
      refine ⟨k :: ks, by rw [hk, h1]; rfl, by simp [h2], fun i k' z => ?_⟩
      cases i with
      | zero => simp at z; subst z; exact hp
      | succ i => exact h3 i k' (by simpa using z)
/-- lists of rows -/
theorem allD {α : Type} {enc : α → D} {acc : List D} {n : Nat} {P : Nat → α → Prop} (hl : acc.length = n) (h : ∀ i (y : D), i < n → acc[i]? = some y → ∃ k, y = enc k ∧ P i k) : ∃ ks : List α, acc = ks.map enc ∧ ks.length = n ∧ ∀ i (k : α), ks[i]? = some k → P i k := by
  induction acc generalizing n P with
  | nil => exact ⟨[], rfl, hl, fun i k z => by simp at z⟩
  | cons a acc ih =>
    cases n with
    | zero => simp at hl
    | succ n =>
      obtain ⟨k, hk, hp⟩ := h 0 a (by omega) rfl
      obtain ⟨ks, h1, h2, h3⟩ := ih (n := n) (P := fun i => P (i + 1)) (by simpa using hl) fun i y hi hy => h (i + 1) y (by omega) (by simpa using hy)
      refine ⟨k :: ks, by rw [hk, h1]; rfl, by simp [h2], fun i k' z => ?_⟩
      cases i with
      | zero => simp at z; subst z; exact hp
      | succ i => exact h3 i k' (by simpa using z)
section
variable {R : D → Prop} {i : Int}
theorem wo_ixM {ns : List Int} (h0 : 0 ≤ i) (h1 : i < ns.length) (q : ∀ c, ns[i.toNat]? = some c → R (.int c)) : Wo (ixD (.lst (ns.map D.int)) (.int i)) R := by
  have hl : i.toNat < ns.length := by omega
  refine (wo_ixL h0 (d := .int ns[i.toNat]) ?_).mpr (q _ (List.getElem?_eq_getElem hl))
  rw [List.getElem?_map, List.getElem?_eq_getElem hl]; rfl
theorem wo_ixMT {ns : List Int} (h0 : 0 ≤ i) (h1 : i < ns.length) (q : ∀ c, ns[i.toNat]? = some c → R (.int c)) : Wo (ixD (.tup (ns.map D.int)) (.int i)) R := by
  have hl : i.toNat < ns.length := by omega
  refine (wo_ixT h0 (d := .int ns[i.toNat]) ?_).mpr (q _ (List.getElem?_eq_getElem hl))
  rw [List.getElem?_map, List.getElem?_eq_getElem hl]; rfl
theorem wo_ixE {α : Type} {enc : α → D} {ns : List α} (h0 : 0 ≤ i) (h1 : i < ns.length) (q : ∀ c, ns[i.toNat]? = some c → R (enc c)) : Wo (ixD (.lst (ns.map enc)) (.int i)) R := by
  have hl : i.toNat < ns.length := by omega
  refine (wo_ixL h0 (d := enc ns[i.toNat]) ?_).mpr (q _ (List.getElem?_eq_getElem hl))
  rw [List.getElem?_map, List.getElem?_eq_getElem hl]; rfl
theorem wo_ixET {α : Type} {enc : α → D} {ns : List α} (h0 : 0 ≤ i) (h1 : i < ns.length) (q : ∀ c, ns[i.toNat]? = some c → R (enc c)) : Wo (ixD (.tup (ns.map enc)) (.int i)) R := by
  have hl : i.toNat < ns.length := by omega
  refine (wo_ixT h0 (d := enc ns[i.toNat]) ?_).mpr (q _ (List.getElem?_eq_getElem hl))
  rw [List.getElem?_map, List.getElem?_eq_getElem hl]; rfl
/-- a list of literals, some item of it -/
theorem wo_ixAny {ds : List D} (h0 : 0 ≤ i) (h1 : i < ds.length) (q : ∀ d ∈ ds, R d) : Wo (ixD (.lst ds) (.int i)) R := by
  have hl : i.toNat < ds.length := by omega
  exact (wo_ixL h0 (List.getElem?_eq_getElem hl)).mpr (q _ (List.getElem_mem hl))
end
@[simp] theorem cutD_1 {d : D} {ds : List D} : cutD (d :: ds) (some 1) none = ds := by
  simp [cutD, HT.sIx]
/-! bits -/
theorem natlog {i : Int} {k : Nat} (h : i.natAbs < 2 ^ k) : i.natAbs.log2 ≤ k := by
  by_cases z : i.natAbs = 0
  · rw [z]; simp
  · exact Nat.le_of_lt ((Nat.log2_lt z).mpr h)
theorem log64 {i : Int} (h : i.natAbs < 2 ^ 64) : i.natAbs.log2 ≤ 64 := natlog h
theorem natlog_mul {i j : Int} {a b : Nat} (h : i.natAbs < 2 ^ a) (k : j.natAbs < 2 ^ b) (l : a + b < 1000000) : i.natAbs.log2 + j.natAbs.log2 < 1000000 := by
  have := natlog h
  have := natlog k
  omega
/-! sums -/
theorem sum_map_add {α : Type} {f g : α → Int} : ∀ xs : List α, (xs.map fun x => f x + g x).sum = (xs.map f).sum + (xs.map g).sum
  | [] => rfl
  | x :: xs => by simp only [List.map_cons, List.sum_cons, sum_map_add xs]; omega
theorem sum_map_sub {α : Type} {f g : α → Int} : ∀ xs : List α, (xs.map fun x => f x - g x).sum = (xs.map f).sum - (xs.map g).sum
  | [] => rfl
  | x :: xs => by simp only [List.map_cons, List.sum_cons, sum_map_sub xs]; omega
theorem sum_map_mul {α : Type} {f : α → Int} {c : Int} : ∀ xs : List α, (xs.map fun x => c * f x).sum = c * (xs.map f).sum
  | [] => by simp
  | x :: xs => by simp only [List.map_cons, List.sum_cons, sum_map_mul xs, Int.mul_add]
theorem sum_map_zero {α : Type} : ∀ xs : List α, (xs.map fun _ => (0 : Int)).sum = 0
  | [] => rfl
  | x :: xs => by simp only [List.map_cons, List.sum_cons, sum_map_zero xs]; omega
theorem sum_nonneg {xs : List Int} (h : ∀ x ∈ xs, 0 ≤ x) : 0 ≤ xs.sum := by
  induction xs with
  | nil => simp
  | cons x xs ih =>
    rw [List.sum_cons]
    have := h x (by simp)
    have := ih fun y hy => h y (by simp [hy])
    omega
theorem sum_abs {xs : List Int} {B : Nat} (h : ∀ x ∈ xs, x.natAbs ≤ B) : xs.sum.natAbs ≤ xs.length * B := by
  induction xs with
  | nil => simp
  | cons x xs ih =>
    rw [List.sum_cons, List.length_cons]
    have h1 := h x (by simp)
    have h2 := ih fun y hy => h y (by simp [hy])
    have h3 : (x + xs.sum).natAbs ≤ x.natAbs + xs.sum.natAbs := Int.natAbs_add_le ..
    have h4 : (xs.length + 1) * B = xs.length * B + B := Nat.succ_mul ..
    omega
end Mir
/-! Dicts with int and str keys: read, written, made. -/
namespace Mir
open PySem PySem.Spec PyProof.Rows L2
theorem u1 {A : Around} (h : A.units + 64 < cLine) : A.units + 1 < cLine := by omega
def rIxDi : R2 := fun x y H Q => ∃ a v, x = .ref a ∧ DGet H a y (some v) ∧ Q v H
theorem ix_dict {X : Cx} (hu : X.A.units + 1 < cLine) : IxR X rIxDi := by
  intro value slice pins s σ H x y v u Q I rx ry h hs
  obtain ⟨a, w, rfl, g, q⟩ := h
  cases rx
  have hT := dict_typeIs I g
  have h2 : wpAny (model X.prog X.w) X.A (getItem (.ref a) u) (EP X pins σ Q) X.xe s := d_getItem hu I g ry fun w' s3 I3 rw' => ⟨w, H, I3, rw', q⟩
  unfold subscriptTail
  refine wpAny_bind ?_
  rw [getitemInPython_of_ne hT.not_modules]
  refine wpAny_bind (wpAny_specialOf hT PySem.F.slot_dict_getitem.lookup ?_)
  have fin : wpAny (model X.prog X.w) X.A (subscripted slice false (.ref a) u) (fun r s₃ => wpAny (model X.prog X.w) X.A (letTemporaryGo value (.ref a) r >>= fun _ => pure r) (EP X pins σ Q) X.xe s₃) X.xe s := by
    rw [hs]
    exact wpAny_operating (wpAny_mono h2 (fun r s₃ h₃ => wpAny_bind (wpAny_letTemporaryGo (wpAny_pure h₃))) fun _ _ x => x)
  first
    | exact wpAny_pure (wpAny_bind fin)
    | exact wpAny_bind fin
    | exact wpAny_bind (wpAny_pure (wpAny_bind fin))
def rIxA (K : Fg) : R2 := fun x y H Q => rIx K x y H Q ∨ rIxDi x y H Q
theorem ix_all {X : Cx} (hu : X.A.units + 1 < cLine) : IxR X (rIxA X.K) := ix_seq.or (ix_dict hu)
def rSetDi : V → V → V → Hp → (Hp → Prop) → Prop := fun o i v H Q => ∃ a H4, o = .ref a ∧ DPut H a i v H4 ∧ Q H4
theorem set_dict {X : Cx} (hu : X.A.units + 1 < cLine) : PSet X rSetDi := by
  intro pins s σ H o i v ov iv u Q I ro ri rv h
  obtain ⟨a, H4, rfl, g, q⟩ := h
  cases ro
  exact d_setItem hu I g ri rv fun s' I' => ⟨H4, I', q⟩
/-! ### over data -/
def keyD : D → Option Key
  | .int i => some (.inl i)
  | .str s => some (.inr s)
  | _ => none
def lookD (ks : List Key) (vs : List D) (k : Key) : Option D := ((ks.zip vs).find? fun p => decide (p.1 = k)).map (·.2)
def ixDA (a b : D) : Option D := match a with
  | .dk ks vs => match keyD b with
    | some k => lookD ks vs k
    | none => none
  | _ => ixD a b
def putD (ks : List Key) (vs : List D) (k : Key) (v : D) : D :=
  if (ks.any fun x => decide (x = k)) = true then .dk ks (List.zipWith (fun x w => if x = k then v else w) ks vs) else .dk (ks ++ [k]) (vs ++ [v])
def setFD (d i a : D) : Option D := match d, keyD i with
  | .dk ks vs, some k => if ks.length < 100000 then some (putD ks vs k a) else none
  | _, _ => none
section
variable {K : Fg}
theorem keyD_rep {H : Hp} {v : V} {d : D} {k : Key} (r : Rep K H v d) (e : keyD d = some k) : v = kV k := by
  cases d with
  | int i => cases e; rw [r.int_inv]; rfl
  | str s => cases e; rw [r.str_inv]; rfl
  | _ => cases e
theorem look_rep {H : Hp} {k : Key} : ∀ {ks : List Key} {xs : List V} {ds : List D} {d : D}, xs.length = ks.length → Reps K H xs ds → lookD ks ds k = some d → ∃ v, valV (ks.zip xs) k = some v ∧ Rep K H v d
  | [], xs, ds, d, _, _, e => by cases ds <;> simp [lookD] at e
  | k0 :: ks, [], ds, d, hl, _, e => by simp at hl
  | k0 :: ks, x :: xs, _, d, hl, .cons rx rs, e => by
    rename_i d0 ds
    by_cases h : k0 = k
    · have : d0 = d := by simpa [lookD, h] using e
      subst this
      exact ⟨x, by simp [valV, h], rx⟩
    · have e' : lookD ks ds k = some d := by simpa [lookD, h] using e
      obtain ⟨v, h1, h2⟩ := look_rep (ks := ks) (by simpa using hl) rs e'
      exact ⟨v, by simpa [valV, h] using h1, h2⟩
theorem rop_ixA : ROp K (rIxA K) ixDA := fun F H x y a b d Q hF ra rb e q => by
  unfold ixDA at e
  split at e
  · rename_i ks vs
    split at e
    · rename_i k hk
      obtain ⟨p, xs, rfl, hl, hs, rs⟩ := ra.dk
      obtain ⟨v, h1, h2⟩ := look_rep (K := K) (H := off F H) hl rs e
      have hy := keyD_rep rb.full hk
      subst hy
      refine .inr ⟨p, v, rfl, ?_, q v H (Ex.refl _) h2⟩
      rw [← h1]
      exact DGet.k hs
    · cases e
  · exact .inl (rop_ix F H x y a b d Q hF ra rb e q)
theorem zipWith_reps {H : Hp} {k : Key} {w : V} {a : D} (q : Rep K H w a) : ∀ {ks : List Key} {xs : List V} {ds : List D}, Reps K H xs ds → Reps K H (List.zipWith (fun x v => if x = k then w else v) ks xs) (List.zipWith (fun x v => if x = k then a else v) ks ds)
  | [], _, _, r => by cases r <;> exact .nil
  | k0 :: ks, _, _, .nil => .nil
  | k0 :: ks, _, _, .cons h r => by
    rw [List.zipWith_cons_cons, List.zipWith_cons_cons]
    refine .cons ?_ (zipWith_reps q r)
    by_cases e : k0 = k
    · rw [if_pos e, if_pos e]; exact q
    · rw [if_neg e, if_neg e]; exact h
theorem put_zip {k : Key} {w : V} : ∀ {ks : List Key} {xs : List V}, (ks.zip xs).map (fun kv => if kv.1 = k then (kv.1, w) else kv) = ks.zip (List.zipWith (fun x v => if x = k then w else v) ks xs)
  | [], _ => by simp
  | _ :: _, [] => by simp
  | k0 :: ks, x :: xs => by
    rw [List.zip_cons_cons, List.map_cons, put_zip, List.zipWith_cons_cons, List.zip_cons_cons]
    by_cases e : k0 = k
    · simp [e]
    · simp [e]
theorem any_zip {k : Key} : ∀ {ks : List Key} {xs : List V}, xs.length = ks.length → ((ks.zip xs).any fun kv => decide (kv.1 = k)) = ks.any fun x => decide (x = k)
  | [], _, _ => by simp
  | _ :: _, [], h => by simp at h
  | k0 :: ks, x :: xs, h => by
    rw [List.zip_cons_cons, List.any_cons, List.any_cons, any_zip (by simpa using h)]
theorem own_dk {F : List Addr} {H : Hp} {p : Addr} {ks : List Key} {ds : List D} (h : OwnAt K F H p (.dk ks ds)) : ∃ xs : List V, xs.length = ks.length ∧ H p = some (.dK (ks.zip xs)) ∧ Reps K (off F H) xs ds := h
theorem put_own {F : List Addr} {H : Hp} {p : Addr} {ks : List Key} {xs : List V} {ds : List D} {k : Key} {w : V} {a : D} (pF : p ∈ F) (hl : xs.length = ks.length) (r : Reps K (off F H) xs ds) (q : Rep K (off F H) w a) :
    OwnAt K F (upd H p (.dK (putK (ks.zip xs) k w))) p (putD ks ds k a) := by
  have eo : off F (upd H p (.dK (putK (ks.zip xs) k w))) = off F H := off_upd pF
  unfold putD
  unfold putK at eo ⊢
  rw [any_zip hl] at eo ⊢
  by_cases h : (ks.any fun x => decide (x = k)) = true
  · rw [if_pos h] at eo ⊢
    rw [if_pos h]
    refine ⟨List.zipWith (fun x v => if x = k then w else v) ks xs, by simp [hl], ?_, ?_⟩
    · rw [upd_same, put_zip]
    · rw [eo]; exact zipWith_reps q r
  · rw [if_neg h] at eo ⊢
    rw [if_neg h]
    refine ⟨xs ++ [w], by simp [hl], ?_, ?_⟩
    · rw [upd_same, List.zip_append hl.symm]; rfl
    · rw [eo]; exact r.append (.cons q .nil)
def mPut (i : Nat) (mi mv : ME) : MS := fun env => match mv env with
  | some (dv, env1) => match env1[i]? with
    | some (.own _ _) => match mi env1 with
      | some (di, env2) => match env2[i]? with
        | some (.own b d0) => match setFD d0 di dv with
          | some d1 => some (.nx, env2.set i (.own b d1))
          | none => none
        | _ => none
      | none => none
    | _ => none
  | none => none
theorem simS_put {i : Nat} {ti tv : TE} {mi mv : ME} (hi : SimE K ti mi) (hv : SimE K tv mv) : SimS K (tAsg tv (gSub (tVar i) ti rSetDi)) (mPut i mi mv) := fun C F σ H env fl env' D r e q => by
  unfold mPut at e
  split at e
  · rename_i dv env1 h1
    split at e
    · rename_i b0 d00 hs0
      split at e
      · rename_i di env2 h2
        split at e
        · rename_i b d0 hs
          split at e
          · rename_i d1 h3
            cases e
            refine hv C F σ H env dv env1 _ r h1 fun v1 H1 r1 e1 p1 => ?_
            obtain ⟨p0, hp0, _⟩ := r1.owns i b0 d00 hs0
            refine ⟨_, hp0, ?_⟩
            refine hi C F σ H1 env1 di env2 _ r1 h2 fun v2 H2 r2 e2 p2 => ?_
            obtain ⟨p, s1, pF, oa, _, _⟩ := r2.owns i b d0 hs
            have ep : p0 = p := by rw [hp0] at s1; cases s1; rfl
            subst ep
            unfold setFD at h3
            split at h3
            · rename_i ks vs k hk
              split at h3
              · rename_i hlen
                cases h3
                obtain ⟨ys, hyl, hy, ry⟩ := own_dk oa
                have hkv := keyD_rep (p2.mono off_ex) hk
                subst hkv
                refine ⟨p0, _, rfl, DPut.k hy ?_, ?_⟩
                · rw [List.length_zip, hyl, Nat.min_self]; exact Nat.lt_of_lt_of_le hlen (by decide)
                · have eo : off F (upd H2 p0 (.dK (putK (ks.zip ys) k v1))) = off F H2 := off_upd pF
                  exact q F σ _ (r2.mut hs hp0 (put_own pF hyl ry (p1.mono e2))) (by rw [eo]; exact e1.trans e2)
              · cases h3
            · cases h3
          · cases e
        · cases e
      · cases e
    · cases e
  · cases e
theorem simN_dnew : SimN K tDNewK (mC (.dk [] [])) := fun C F σ H env d env' Q rl e q => by
  cases e
  refine fun p hp => ?_
  have oc : Ex (off F H) (off (p :: F) (upd H p (.dK []))) := off_cons hp
  exact q p _ hp (fun j b e he => rl.noslot hp he) (rl.laid hp) oc ⟨[], rfl, upd_same, .nil⟩
end
end Mir
/-! tuple * int with known objects. -/
namespace Mir
open PySem PySem.Spec PyProof.Rows L2
theorem tuple_mul1 (l : Addr) (items : Array Value) (n : Nat) (dd : Option Addr) (sl : Array (Option Value)) (u : Tok) (hi : items.isEmpty = false) :
    Meets (Builtin.«tuple.__mul__» ⟨[.ref l, .int 1 u], []⟩) (fun _ R s => s.heap.get? l = some { cls := .type "tuple", dict := dd, data := .seq items n, slots := sl } ∧ R (.ok (.ret (Value.ref l))) s) :=
  .of_wp fun prog w A R s h => by
    obtain ⟨hp, g, d, tk, os⟩ := s
    obtain ⟨hl, h⟩ := h
    have f1 := AutoSeq1.idx_int
    wp_walk using wpAny_loadPart' hl
    exact ⟨_, rfl, h⟩
def rRepF (K : PySem.W.Frag) : R2 := fun x y H Q => ∃ l k xs, x = .ref l ∧ y = .int k ∧ SqT K H l xs ∧ xs ≠ [] ∧ 1 ≤ k ∧ k ≤ 1000 ∧ xs.length ≤ 1000 ∧ (k = 1 → Q (.ref l) H) ∧ (k ≠ 1 → NewT H (List.replicate k.toNat xs).flatten Q)
theorem op_repF {X : Cx} : OpR X (binaryOp .Mult) (rRepF X.K) := by
  intro pins s σ H x y v u Q I rx ry h
  obtain ⟨l, k, xs, rfl, rfl, hT, hne, h1, h2, hz, q1, q⟩ := h
  cases rx
  obtain ⟨t, rfl⟩ := ry
  obtain ⟨its, r, ⟨⟨cls, dd, data, sl⟩, ho, hc, n, hd⟩, hs⟩ := I.tuple hT
  simp only at hc hd
  subst hc hd
  have hle : its.length = xs.length := r.length.symm
  have hn : its ≠ [] := fun e => hne (by
    rw [e] at hle
    exact List.eq_nil_of_length_eq_zero hle.symm)
  have hi : its.toArray.isEmpty = false := by
    cases its with
    | nil => exact absurd rfl hn
    | cons a b => rfl
  by_cases hk : k = 1
  · subst hk
    exact wpAny_binaryOp_repeat_ref (T := "tuple") (U := "int") (by decide) ⟨_, ho, rfl⟩ (fun s' => typeIs_int s' 1 t) noFill_tuple_mul F.fills_int_mul F.slot_int_rmul repeat_tuple F.slot_int_index.lookup
      (call_meets F.slot_int_rmul (typeIs_int s 1 t) F.entry_int_rmul (F.args_int_rmul_2 _ _) (int_rmul_tuple 1 t l its.toArray n dd sl)
        ⟨ho, rfl, ⟨_, ho, rfl⟩, call_meets F.slot_tuple_mul ⟨_, ho, rfl⟩ F.entry_tuple_mul (F.args_tuple_mul_2 _ _) (tuple_mul1 l its.toArray n dd sl t hi) ⟨ho, ⟨.ref l, H, I, rfl, q1 rfl⟩⟩⟩)
  · have hsz0 : its.toArray.size = xs.length := by rw [List.size_toArray, hle]
    have hm : ((its.toArray.size : Nat) : Int) * k ≤ 1000000 := by
      rw [hsz0]
      have a1 : ((xs.length : Nat) : Int) * k ≤ 1000 * k := Int.mul_le_mul_of_nonneg_right (by omega) (by omega)
      omega
    have flen : (List.replicate k.toNat its).flatten.length ≤ sizeLine := by
      rw [PyProof.Rows.lm_len_rep_flat, hle, sizeLine_eq]
      have a1 : k.toNat * xs.length ≤ 1000 * 1000 := Nat.mul_le_mul (by omega) hz
      omega
    have c0 : (decide (k < -(2 ^ 63)) || decide (k ≥ 2 ^ 63)) = false := by
      rw [decide_eq_false (by omega), decide_eq_false (by omega)] <;> rfl
    have c1 : (its.toArray.isEmpty || k == 1) = false := by
      rw [hi, Bool.false_or]
      exact beq_eq_false_iff_ne.mpr (by omega)
    have c2 : (decide (k ≤ 0) || its.toArray.isEmpty) = false := by
      rw [hi, Bool.or_false]
      exact decide_eq_false (by omega)
    have c4 : Builtin.Tuple.tupleTooMany (((its.toArray.size : Nat) : Int) * k) = false := by
      unfold Builtin.Tuple.tupleTooMany
      rw [sizeLine_eq]
      exact decide_eq_false (by omega)
    refine wpAny_binaryOp_repeat_ref (T := "tuple") (U := "int") (by decide) ⟨_, ho, rfl⟩ (fun s' => typeIs_int s' k t) noFill_tuple_mul F.fills_int_mul F.slot_int_rmul repeat_tuple F.slot_int_index.lookup
      (call_meets F.slot_int_rmul (typeIs_int s k t) F.entry_int_rmul (F.args_int_rmul_2 _ _) (int_rmul_tuple k t l its.toArray n dd sl)
        ⟨ho, rfl, ⟨_, ho, rfl⟩, call_meets F.slot_tuple_mul ⟨_, ho, rfl⟩ F.entry_tuple_mul (F.args_tuple_mul_2 _ _) (tuple_mulW l its.toArray n dd sl k t c0 c1 c2 (by omega) c4 (by rw [size_rep, List.size_toArray]; exact flen)) ⟨ho, ?_⟩⟩)
    rw [size_rep]
    exact laidT I (r.rep k.toNat) (by rw [PyProof.Rows.lm_len_rep_flat, sizeLine_eq]; have a1 : k.toNat * xs.length ≤ 1000 * 1000 := Nat.mul_le_mul (by omega) hz; omega) (q hk)
end Mir
/-! insert; mirrors of the further operators. -/
namespace Mir
open PySem L2
def rIns : V → List V → Hp → VK → Prop := fun x vs H Q => ∃ (l : Addr) (xs : List V) (i : Int) (y : V), x = .ref l ∧ vs = [.int i, y] ∧ H l = some (.lst xs) ∧ xs.length < sizeLine ∧ 0 ≤ i ∧ i < 2 ^ 63 ∧
    Q .non (upd H l (.lst (xs.take i.toNat ++ [y] ++ xs.drop i.toNat)))
section
variable {K : Fg}
theorem mt_ins {X : Cx} : MtR X "list.insert" rIns := mt_insert
theorem rmut_ins : RMut K rIns insF := fun F H p d0 xs as res d1 Q pF oa ra e q => by
  unfold insF at e
  split at e
  · split at e
    · rename_i ds i a hl
      cases e
      obtain ⟨x, y, rfl, hx, hy⟩ := ra.two
      obtain ⟨ys, hys, ry⟩ := own_list oa
      refine ⟨p, ys, i, y, rfl, by rw [hx.int_inv], hys, Nat.lt_of_lt_of_le (by rw [ry.length]; exact hl.1) (by decide), hl.2.1, by have := hl.2.2; omega, q .non _ .non (own_put pF ?_)⟩
      exact ((ry.take _).append (.cons hy .nil)).append (ry.drop _)
    · cases e
  · cases e
def mulDA (a b : D) : Option D := match a with
  | .tup xs => match b with
    | .int k => if xs ≠ [] ∧ 1 ≤ k ∧ k ≤ 1000 ∧ xs.length ≤ 1000 then some (.tup (List.replicate k.toNat xs).flatten) else none
    | _ => none
  | _ => mulD a b
def rMulA (K : Fg) : R2 := fun x y H Q => rMulAll x y H Q ∨ rRepF K x y H Q
theorem op_mulA {X : Cx} : OpR X (binaryOp .Mult) (rMulA X.K) := op_mulAll.or op_repF
theorem rop_mulA : ROp K (rMulA K) mulDA := fun F H x y a b d Q hF ra rb e q => by
  unfold mulDA at e
  split at e
  · rename_i xs
    split at e
    · rename_i k
      split at e
      · rename_i hc
        cases e
        obtain ⟨p, ys, rfl, hs, r, f⟩ := ra.tup
        rw [rb.int]
        have hne : ys ≠ [] := fun z => hc.1 (r.nil_iff.mp z)
        refine .inr ⟨p, k, ys, rfl, rfl, hs, hne, hc.2.1, hc.2.2.1, by rw [r.length]; exact hc.2.2.2, fun z => ?_, fun _ p2 o2 hp fz => ?_⟩
        · subst z
          have : (List.replicate (1 : Int).toNat xs).flatten = xs := by simp
          rw [this] at q
          exact q _ H (Ex.refl _) f
        · obtain ⟨e1, r1⟩ := new_tup hF hp fz (Reps.rep r k.toNat)
          exact q _ _ e1 r1
      · cases e
    · cases e
  · exact .inl (rop_mul F H x y a b d Q hF ra rb e q)
end
end Mir
/-! A list of lists that are changed through an alias: rows = [new list for ..]; loops of row = rows[..], row[at] = row[at] + ..; return rows. And operators that give a new list of one's own. -/
namespace Mir
open PySem L2
/-! ### operators that give a new list -/
def ROpN (K : Fg) (r : R2) (f : D → D → Option (List D)) : Prop := ∀ (F : List Addr) (H : Hp) (x y : V) (a b : D) (ds : List D) (Q : VK), (∀ p ∈ F, ∃ o, H p = some o) → RepB K F H x a → RepB K F H y b → f a b = some ds →
  (∀ p zs, H p = none → Reps K (off F H) zs ds → Q (.ref p) (upd H p (.lst zs))) → r x y H Q
def mOpN (f : D → D → Option (List D)) (a b : Arg) : ME := fun env => match a.run env with
  | some (x, env1) => match b.run env1 with
    | some (y, env2) => match getA env2 x with
      | some dx => match getA env2 y with
        | some dy => match f dx dy with
          | some ds => some (.lst ds, env2)
          | none => none
        | none => none
      | none => none
    | none => none
  | none => none
def mulN (a b : D) : Option (List D) := match a with
  | .lst xs => match b with | .int k => if k ≤ 100000 ∧ -100000 ≤ k ∧ xs.length * k.toNat ≤ 100000 then some (List.replicate k.toNat xs).flatten else none | _ => none
  | _ => none
def addN (a b : D) : Option (List D) := match a with
  | .lst xs => match b with | .lst ys => if xs.length + ys.length ≤ 100000 then some (xs ++ ys) else none | _ => none
  | _ => none
section
variable {K : Fg} {ta tb te : TE} {a b : Arg}
theorem Rel.new0 {C : Cfg} {F : List Addr} {σ : L2.St} {H H1 : Hp} {env env1 : Env} (r : Rel K C F σ H env) (r1 : Rel K C F σ H1 env1) (e1 : Ex (off F H) (off F H1)) {p : Addr} (hp : H1 p = none) : H p = none := by
  cases h0 : H p with
  | none => rfl
  | some o =>
    by_cases pF : p ∈ F
    · obtain ⟨u, hu⟩ := r1.live p pF
      rw [hp] at hu; cases hu
    · have := e1 p o (off_some.mpr ⟨pF, h0⟩)
      rw [off_some, hp] at this
      exact absurd this.2 (by simp)
theorem simN_op {r : R2} {f : D → D → Option (List D)} (hr : ROpN K r f) (ha : SimX K ta a) (hb : SimX K tb b) : SimN K (tOp r ta tb) (mOpN f a b) := fun C F σ H env d env' Q rl e q => by
  unfold mOpN at e
  split at e
  · rename_i x env1 h1
    split at e
    · rename_i y env2 h2
      split at e
      · rename_i dx hx
        split at e
        · rename_i dy hy
          split at e
          · rename_i ds hd
            cases e
            refine ha C F σ H env x env1 _ rl h1 fun v1 H1 r1 e1 p1 => ?_
            refine hb C F σ H1 env1 y env' _ r1 h2 fun v2 H2 r2 e2 p2 => ?_
            refine hr F H2 v1 v2 dx dy ds Q r2.live ((p1.mono e2).val r2 hx) (p2.val r2 hy) hd fun p zs hp rz => ?_
            have oc : Ex (off F H2) (off (p :: F) (upd H2 p (.lst zs))) := off_cons hp
            exact q p _ (rl.new0 r2 (e1.trans e2) hp) (fun j b e he => r2.noslot hp he) (r2.laid hp) ((e1.trans e2).trans oc) ⟨zs, upd_same, rz.mono oc⟩
          · cases e
        · cases e
      · cases e
    · cases e
  · cases e
theorem rop_mulN : ROpN K rMulAll mulN := fun F H x y a b d Q hF ra rb e q => by
  unfold mulN at e
  split at e
  · split at e
    · split at e
      · rename_i k hl
        cases e
        obtain ⟨p, xs, ex, hx, rx⟩ := ra.lst
        subst ex
        rw [rb.int]
        exact .inr ⟨p, k, xs, rfl, rfl, hx, by omega, by omega, by rw [rx.length]; exact small hl.2.2, fun p2 hp => q p2 _ hp (rx.rep k.toNat)⟩
      · cases e
    · cases e
  · cases e
theorem rop_addN : ROpN K (rAddAll K) addN := fun F H x y a b d Q hF ra rb e q => by
  unfold addN at e
  split at e
  · split at e
    · split at e
      · rename_i hl
        cases e
        obtain ⟨p, xs, ex, hx, rx⟩ := ra.lst
        obtain ⟨p', ys, ey, hy, ry⟩ := rb.lst
        subst ex ey
        exact .inr (.inr (.inr ⟨p, p', xs, ys, rfl, rfl, hx, hy, by rw [rx.length, ry.length]; exact small hl, fun p2 hp => q p2 _ hp (rx.append ry)⟩))
      · cases e
    · cases e
  · cases e
end
/-! ### the nest -/
def ownfree (env : Env) : Bool := env.all fun s => match s with | .own _ _ => false | _ => true
theorem ownfree_at {env : Env} (h : ownfree env = true) : ∀ (j : Nat) b d, env[j]? ≠ some (.own b d) := fun j b d e => by
  have := List.all_eq_true.mp h _ (List.mem_of_getElem? e)
  cases this
theorem ownfree_set {env : Env} (h : ∀ (j : Nat) b d, env[j]? ≠ some (.own b d)) (i : Nat) (x : D) : ∀ (j : Nat) b d, (env.set i (.val x))[j]? ≠ some (.own b d) := fun j b d e => by
  by_cases z : j = i
  · subst z
    by_cases hl : j < env.length
    · rw [List.getElem?_set_self hl] at e; cases e
    · rw [List.getElem?_eq_none (by rw [List.length_set]; omega)] at e; cases e
  · rw [List.getElem?_set_ne (fun q => z q.symm)] at e; exact h j b d e
section
variable {K : Fg} {C C' : Cfg} {F F' : List Addr} {σ σ' : L2.St} {H H' : Hp} {env env' : Env} {ir iw : Nat} {p : Addr} {qs : List Addr} {L : List (List D)} {al : Option Nat}
/-- without objects of one's own the slots stay what they were -/
theorem Rel.again (r : Rel K C F σ H env) (r' : Rel K C F' σ' H' env') (own : ∀ (j : Nat) b d, env[j]? ≠ some (.own b d)) (e : Ex (off F H) (off F' H')) : Rel K C F' σ H' env where
  len := r.len
  vals := fun i d h => let ⟨v, a, b⟩ := r.vals i d h; ⟨v, a, b.mono e⟩
  owns := fun i b d h => absurd h (own i b d)
  apart := fun i j b c d e p _ h => absurd h (own i b d)
  pars := fun i p h => let ⟨_, d, q⟩ := r.pars i p h; absurd q (own i _ d)
  sub := r'.sub
  old := r'.old
  live := r'.live
  base := r.base
  pmF := r.pmF
  pins := fun a o h => let ⟨x, y, _⟩ := r'.pins a o h; ⟨x, y, fun i b d q => absurd q (own i b d)⟩
def pinN (C : Cfg) (H : Hp) (ps : List Addr) : Cfg := { C with pin := fun a => if a ∈ ps then H a else C.pin a }
theorem Rel.pinNest (r : Rel K C F σ H env) (own : ∀ (j : Nat) b d, env[j]? ≠ some (.own b d)) {ps : List Addr} (hF : ∀ q ∈ ps, q ∈ F) : Rel K (pinN C H ps) F σ H env :=
  ⟨r.len, r.vals, r.owns, r.apart, r.pars, r.sub, r.old, r.live, r.base, r.pmF, fun a u q => by
    have q' : (if a ∈ ps then H a else C.pin a) = some u := q
    split at q'
    · rename_i ha
      exact ⟨q', hF a ha, fun i b d z => absurd z (own i b d)⟩
    · exact r.pins a u q'⟩
theorem Rel.unpinNest {ps : List Addr} {H1 : Hp} (r : Rel K (pinN C H1 ps) F σ H env) (h : ∀ q ∈ ps, C.pin q = none) : Rel K C F σ H env :=
  ⟨r.len, r.vals, r.owns, r.apart, r.pars, r.sub, r.old, r.live, r.base, r.pmF, fun b u q => r.pins b u (by
    have nb : b ∉ ps := fun z => by rw [h b z] at q; cases q
    show (if b ∈ ps then H1 b else C.pin b) = some u
    rw [if_neg nb]; exact q)⟩
theorem Rel.pinAt {ps : List Addr} {H1 : Hp} (r : Rel K (pinN C H1 ps) F σ H env) {q : Addr} {o : HO} (hq : q ∈ ps) (h : H1 q = some o) : H q = some o :=
  (r.pins q o (by show (if q ∈ ps then H1 q else C.pin q) = some o; rw [if_pos hq]; exact h)).1
structure RC (K : Fg) (C : Cfg) (p : Addr) (qs : List Addr) (F : List Addr) (σ : L2.St) (H : Hp) (env : Env) (L : List (List D)) : Prop where
  rel : Rel K C F σ H env
  own : ∀ (j : Nat) b d, env[j]? ≠ some (.own b d)
  top : H p = some (.lst (qs.map V.ref))
  nd : (p :: qs).Nodup
  inF : ∀ q ∈ p :: qs, q ∈ F ∧ C.H0 q = none ∧ C.pin q = none
  len : qs.length = L.length
  it : ∀ (i : Nat) q l, qs[i]? = some q → L[i]? = some l → ∃ xs, H q = some (.lst xs) ∧ Reps K (off F H) xs l
structure RN (K : Fg) (C : Cfg) (ir iw : Nat) (p : Addr) (qs : List Addr) (F : List Addr) (σ : L2.St) (H : Hp) (env : Env) (L : List (List D)) (al : Option Nat) : Prop extends RC K C p qs F σ H env L where
  sr : σ[ir]? = some (some (.ref p))
  sw : ∀ j, al = some j → ∃ q : Addr, qs[j]? = some q ∧ σ[iw]? = some (some (.ref q))
  ew : ∀ d, env[iw]? ≠ some (.val d)
  lw : iw < σ.length
theorem RC.live (h : RC K C p qs F σ H env L) : ∀ q ∈ p :: qs, ∃ o, H q = some o := fun q hq => h.rel.live q (h.inF q hq).1
theorem RC.pin (h : RC K C p qs F σ H env L) : Rel K (pinN C H (p :: qs)) F σ H env := h.rel.pinNest h.own fun q hq => (h.inF q hq).1
/-- behind a reading -/
theorem RC.step (h : RC K C p qs F σ H env L) (r : Rel K (pinN C H (p :: qs)) F' σ' H' env') (e : Ex (off F H) (off F' H')) : RC K C p qs F' σ H' env L where
  rel := (h.pin.again r h.own e).unpinNest fun q hq => (h.inF q hq).2.2
  own := h.own
  top := r.pinAt (List.mem_cons_self ..) h.top
  nd := h.nd
  inF := fun q hq => by
    obtain ⟨o, ho⟩ := h.live q hq
    exact ⟨(r.pins q o (by show (if q ∈ p :: qs then H q else C.pin q) = some o; rw [if_pos hq]; exact ho)).2.1, (h.inF q hq).2⟩
  len := h.len
  it := fun i q l hq hl => by
    obtain ⟨xs, e1, e2⟩ := h.it i q l hq hl
    exact ⟨xs, r.pinAt (List.mem_cons_of_mem _ (List.mem_of_getElem? hq)) e1, e2.mono e⟩
theorem RN.step (h : RN K C ir iw p qs F σ H env L al) (r : Rel K (pinN C H (p :: qs)) F σ' H' env') (e : Ex (off F H) (off F H')) : RN K C ir iw p qs F σ H' env L al :=
  ⟨h.toRC.step r e, h.sr, h.sw, h.ew, h.lw⟩
/-- a reading's promise -/
theorem RC.grow (h : RC K C p qs F σ H env L) (e : Ex H H') : RC K C p qs F σ H' env L where
  rel := h.rel.grow e
  own := h.own
  top := e _ _ h.top
  nd := h.nd
  inF := h.inF
  len := h.len
  it := fun i q l hq hl => by
    obtain ⟨xs, e1, e2⟩ := h.it i q l hq hl
    exact ⟨xs, e _ _ e1, e2.mono (off_mono e)⟩
theorem RN.grow (h : RN K C ir iw p qs F σ H env L al) (e : Ex H H') : RN K C ir iw p qs F σ H' env L al :=
  ⟨h.toRC.grow e, h.sr, h.sw, h.ew, h.lw⟩
theorem RC.set (h : RC K C p qs F σ H env L) {i : Nat} {v : V} {d : D} (hv : Rep K (off F H) v d) : RC K C p qs F (σ.set i (some v)) H (env.set i (.val d)) L :=
  ⟨h.rel.set (fun d' z => h.own i _ d' z) hv, ownfree_set h.own i d, h.top, h.nd, h.inF, h.len, h.it⟩
theorem RN.set (h : RN K C ir iw p qs F σ H env L al) {i : Nat} {v : V} {d : D} (h1 : i ≠ ir) (h2 : i ≠ iw) (hv : Rep K (off F H) v d) : RN K C ir iw p qs F (σ.set i (some v)) H (env.set i (.val d)) L al where
  toRC := h.toRC.set hv
  sr := by rw [List.getElem?_set_ne h1]; exact h.sr
  sw := fun j hj => by rw [List.getElem?_set_ne h2]; exact h.sw j hj
  ew := fun e z => h.ew e (by rwa [List.getElem?_set_ne h2] at z)
  lw := by rw [List.length_set]; exact h.lw
end
abbrev ZS := Env × List (List D) × Option Nat
def SimZ (K : Fg) (ir iw : Nat) (ts : TS) (m : ZS → Option ZS) : Prop := ∀ (C : Cfg) (p : Addr) (qs : List Addr) (F : List Addr) (σ : L2.St) (H : Hp) (z z' : ZS) (D : Ends), RN K C ir iw p qs F σ H z.1 z.2.1 z.2.2 → m z = some z' →
  (∀ σ' H', RN K C ir iw p qs F σ' H' z'.1 z'.2.1 z'.2.2 → Ex (off F H) (off F H') → D.nx σ' H') → ts D σ H
def zAsg (m : ME) (i : Nat) : ZS → Option ZS := fun z => match m z.1 with
  | some (d, _) => some (z.1.set i (.val d), z.2)
  | none => none
def zRow (m : ME) : ZS → Option ZS := fun z => match m z.1 with
  | some (.int k, _) => if 0 ≤ k ∧ k.toNat < z.2.1.length then some (z.1, z.2.1, some k.toNat) else none
  | _ => none
def zSet (mi mv : ME) : ZS → Option ZS := fun z => match z.2.2 with
  | some j => match z.2.1[j]? with
    | some l => match mi z.1 with
      | some (.int a, _) => if 0 ≤ a then match l[a.toNat]? with
          | some d0 => match mv z.1 with
            | some (d1, _) => match addD d0 d1 with
              | some d2 => some (z.1, z.2.1.set j (l.set a.toNat d2), some j)
              | none => none
            | none => none
          | none => none
        else none
      | _ => none
    | none => none
  | none => none
def zSeq (a b : ZS → Option ZS) : ZS → Option ZS := fun z => match a z with
  | some z1 => b z1
  | none => none
def zForL (i : Nat) (b : ZS → Option ZS) : List D → ZS → Option ZS
  | [], z => some z
  | d :: ds, z => match b (z.1.set i (.val d), z.2) with
    | some z1 => zForL i b ds z1
    | none => none
def zFor (mi : Env → Option (List D × Env)) (i : Nat) (b : ZS → Option ZS) : ZS → Option ZS := fun z => match mi z.1 with
  | some (ds, _) => zForL i b ds z
  | none => none
section
variable {K : Fg} {ir iw : Nat} {te ti tv : TE} {m mi mv : ME} {t u : TS} {a b : ZS → Option ZS}
theorem simZ_seq (h1 : SimZ K ir iw t a) (h2 : SimZ K ir iw u b) : SimZ K ir iw (tSeq t u) (zSeq a b) := fun C p qs F σ H z z' D r e q => by
  unfold zSeq at e
  split at e
  · rename_i z1 hz
    exact h1 C p qs F σ H z z1 _ r hz fun σ1 H1 r1 e1 => h2 C p qs F σ1 H1 z1 z' D r1 e fun σ2 H2 r2 e2 => q σ2 H2 r2 (e1.trans e2)
  · cases e
theorem simZ_asg {i : Nat} (h1 : i ≠ ir) (h2 : i ≠ iw) (h : SimE K te m) : SimZ K ir iw (tAsg te (gName i)) (zAsg m i) := fun C p qs F σ H z z' D r e q => by
  unfold zAsg at e
  split at e
  · rename_i d env1 hm
    cases e
    refine h _ F σ H z.1 d env1 _ r.pin hm fun v H1 r1 e1 p1 => ?_
    exact q _ H1 ((r.step r1 e1).set h1 h2 p1) e1
  · cases e
theorem Rel.setUn {C : Cfg} {F : List Addr} {σ : L2.St} {H : Hp} {env : Env} (r : Rel K C F σ H env) (own : ∀ (j : Nat) b d, env[j]? ≠ some (.own b d)) {i : Nat} {v : Option V} (hi : ∀ d, env[i]? ≠ some (.val d)) : Rel K C F (σ.set i v) H env where
  len := by rw [List.length_set]; exact r.len
  vals := fun j d h => by
    have ne : i ≠ j := fun z => hi d (z ▸ h)
    rw [List.getElem?_set_ne ne]; exact r.vals j d h
  owns := fun i b d h => absurd h (own i b d)
  apart := fun i j b c d e p _ h => absurd h (own i b d)
  pars := fun i p h => let ⟨_, d, q⟩ := r.pars i p h; absurd q (own i _ d)
  sub := r.sub
  old := r.old
  live := r.live
  base := r.base
  pmF := r.pmF
  pins := fun a o h => let ⟨x, y, _⟩ := r.pins a o h; ⟨x, y, fun i b d q => absurd q (own i b d)⟩
theorem atI_of {xs : List V} {k : Int} {v : V} (h0 : 0 ≤ k) (h : xs[k.toNat]? = some v) : atI xs k = some v := by
  have := L2.atI_nat h
  rwa [Int.toNat_of_nonneg h0] at this
theorem ixN_of {n : Nat} {k : Int} (h0 : 0 ≤ k) (h : k.toNat < n) : ixN n k = some k.toNat := by
  unfold ixN
  rw [if_pos h0, if_pos (by omega)]
theorem simZ_row (hn : iw ≠ ir) (h : SimE K ti m) : SimZ K ir iw (tAsg (tOp (rIx K) (tVar ir) ti) (gName iw)) (zRow m) := fun C p qs F σ H z z' D r e q => by
  unfold zRow at e
  split at e
  · rename_i k env1 hm
    split at e
    · rename_i hk
      cases e
      refine ⟨_, r.sr, ?_⟩
      refine h _ F σ H z.1 _ env1 _ r.pin hm fun v H1 r1 e1 p1 => ?_
      have r2 := r.step r1 e1
      cases p1.int_inv
      have hq : ∃ a, qs[k.toNat]? = some a := ⟨qs[k.toNat]'(by rw [r.len]; exact hk.2), List.getElem?_eq_getElem _⟩
      obtain ⟨a, hq⟩ := hq
      refine .inl ⟨p, qs.map V.ref, k, .ref a, rfl, rfl, .inl (.inl r2.top), atI_of hk.1 (by rw [List.getElem?_map, hq]; rfl), ?_⟩
      refine q _ H1 ⟨⟨r2.rel.setUn r2.own r2.ew, r2.own, r2.top, r2.nd, r2.inF, r2.len, r2.it⟩, ?_, ?_, r2.ew, by rw [List.length_set]; exact r2.lw⟩ e1
      · rw [List.getElem?_set_ne hn]; exact r2.sr
      · intro j hj
        cases hj
        exact ⟨a, hq, by rw [List.getElem?_set_self r2.lw]⟩
    · cases e
  · cases e
theorem simZ_set (hi : SimE K ti mi) (hv : SimE K tv mv) : SimZ K ir iw (tAsg (tOp (rAddAll K) (tOp (rIx K) (tVar iw) ti) tv) (gSub (tVar iw) ti rSetL)) (zSet mi mv) := fun C p qs F σ H z z' D r e q => by
  obtain ⟨env, L, al⟩ := z
  unfold zSet at e
  dsimp only at e r
  split at e
  · rename_i j
    split at e
    · rename_i l hl
      split at e
      · rename_i a env1 hm
        split at e
        · rename_i ha
          split at e
          · rename_i d0 hd0
            split at e
            · rename_i d1 env2 hv1
              split at e
              · rename_i d2 hd2
                cases e
                obtain ⟨aq, hq, hs⟩ := r.sw j rfl
                refine ⟨_, hs, ?_⟩
                refine hi _ F σ H env _ env1 _ r.pin hm fun v1 H1 r1 e1 p1 => ?_
                have z1 := r.step r1 e1
                cases p1.int_inv
                obtain ⟨xs, hx, rx⟩ := z1.it j aq l hq hl
                obtain ⟨x0, hx0, rx0⟩ := rx.get hd0
                refine .inl ⟨aq, xs, a, x0, rfl, rfl, .inl (.inl hx), atI_of ha hx0, ?_⟩
                refine hv _ F σ H1 env _ env2 _ z1.pin hv1 fun v2 H2 r2 e2 p2 => ?_
                have z2 := z1.step r2 e2
                refine rop_add F H2 x0 v2 d0 d1 d2 _ z2.rel.live (.inl (rx0.mono e2)) (.inl p2) hd2 fun v3 H3 e3 p3 => ?_
                have z3 := z2.grow e3
                refine ⟨_, hs, ?_⟩
                refine hi _ F σ H3 env _ env1 _ z3.pin hm fun v4 H4 r4 e4 p4 => ?_
                have z4 := z3.step r4 e4
                cases p4.int_inv
                obtain ⟨ys, hy, ry⟩ := z4.it j aq l hq hl
                have al' : a.toNat < ys.length := by rw [ry.length]; exact (List.getElem?_eq_some_iff.mp hd0).1
                have aqF := z4.inF aq (List.mem_cons_of_mem _ (List.mem_of_getElem? hq))
                refine ⟨aq, ys, a, a.toNat, rfl, rfl, hy, ixN_of ha al', ?_⟩
                have eo : off F (upd H4 aq (.lst (ys.set a.toNat v3))) = off F H4 := off_upd aqF.1
                have nq : aq ≠ p := fun w => by
                  have := (List.nodup_cons.mp z4.nd).1
                  exact this (w ▸ List.mem_of_getElem? hq)
                refine q σ _ ⟨⟨z4.rel.updF aqF.1 aqF.2.1 aqF.2.2 (fun j b e h => absurd h (z4.own j b e)), z4.own, by rw [upd_ne nq.symm]; exact z4.top, z4.nd, z4.inF, by rw [List.length_set]; exact z4.len, ?_⟩, z4.sr, ?_, z4.ew, z4.lw⟩ ?_
                · intro i q2 l2 hq2 hl2
                  rw [eo]
                  by_cases w : i = j
                  · subst w
                    rw [hq] at hq2; cases hq2
                    have hL := (List.getElem?_eq_some_iff.mp hl).1
                    rw [List.getElem?_set_self hL] at hl2; cases hl2
                    exact ⟨_, upd_same, ry.set (p3.mono e4) a.toNat⟩
                  · rw [List.getElem?_set_ne (fun x => w x.symm)] at hl2
                    obtain ⟨xs2, h2, h3⟩ := z4.it i q2 l2 hq2 hl2
                    have nq2 : q2 ≠ aq := fun x => by
                      subst x
                      have n2 := (List.nodup_cons.mp z4.nd).2
                      have i1 := (List.getElem?_eq_some_iff.mp hq).1
                      have i2 := (List.getElem?_eq_some_iff.mp hq2).1
                      exact w ((List.getElem?_inj i2 n2).mp (hq2.trans hq.symm))
                    exact ⟨xs2, by rw [upd_ne nq2]; exact h2, h3⟩
                · intro j' hj'
                  cases hj'
                  exact ⟨aq, hq, hs⟩
                · rw [eo]
                  exact ((e1.trans e2).trans (off_mono e3)).trans e4
              · cases e
            · cases e
          · cases e
        · cases e
      · cases e
    · cases e
  · cases e
theorem simZ_for {wi : TI} {mi : Env → Option (List D × Env)} {i : Nat} {tb : TS} {b : ZS → Option ZS} (h1 : i ≠ ir) (h2 : i ≠ iw) (hi : SimI K wi mi) (hb : SimZ K ir iw tb b) : SimZ K ir iw (tFor wi (gName i) tb) (zFor mi i b) := fun C p qs F σ H z z' D r e q => by
  unfold zFor at e
  split at e
  · rename_i ds env1 hm
    refine hi _ F σ H z.1 ds env1 _ r.pin hm fun J G Y H1 w stab yl r1 e1 => ?_
    have z1 := r.step r1 e1
    refine L2.for_it w (g := gName i) (tb := tb) (D := D) (σ := σ) (H := H1) (fun k σ' H' => ∃ z2 : ZS, RN K C ir iw p qs F σ' H' z2.1 z2.2.1 z2.2.2 ∧ Ex (off F H1) (off F H') ∧ zForL i b (ds.drop k) z2 = some z') ⟨z, z1, Ex.refl _, e⟩ (fun k σ' H' _ ⟨_, _, ex, _⟩ => stab F H' ex) (fun k x σ' H2 H3 hlt ⟨z2, r2, ex2, e2⟩ y => ?_) (fun σ' H' ⟨z2, r2, ex2, e2⟩ => ?_)
    · have hd : ds[k]? = some ds[k] := List.getElem?_eq_getElem hlt
      rw [List.drop_eq_getElem_cons hlt] at e2
      unfold zForL at e2
      obtain ⟨ex3, p3⟩ := yl k H2 x H3 F ds[k] hd r2.rel.live ex2 y
      have r3 := (r2.grow ex3).set h1 h2 p3
      split at e2
      · rename_i z3 h3
        exact hb C p qs F _ H3 (z2.1.set i (.val ds[k]), z2.2) z3 _ r3 h3 fun σ5 H5 r5 ex5 => ⟨z3, r5, (ex2.trans (off_mono ex3)).trans ex5, e2⟩
      · cases e2
    · rw [List.drop_length] at e2
      unfold zForL at e2
      cases e2
      exact q σ' H' r2 (e1.trans ex2)
  · cases e
/-- rows = [te for v in wi]; loop; return rows -/
def nestL (m : ME) (v : Nat) (env : Env) : List D → Option (List (List D))
  | [] => some []
  | d :: ds => match m (env.set v (.val d)) with
    | some (.lst l, _) => match nestL m v env ds with
      | some L => some (l :: L)
      | none => none
    | _ => none
def isUn (env : Env) (i : Nat) : Bool := match env[i]? with | some .un => true | _ => false
theorem isUn_at {env : Env} {i : Nat} (h : isUn env i = true) : env[i]? = some .un := by
  unfold isUn at h
  split at h
  · assumption
  · cases h
def mNest (mi : Env → Option (List D × Env)) (v : Nat) (m : ME) (ir iw : Nat) (b : ZS → Option ZS) : MS := fun env => match mi env with
  | some (ds, _) => if ownfree env = true ∧ ds.length ≤ 100000 ∧ isUn env ir = true ∧ isUn env iw = true then
      match nestL m v env ds with
      | some L => match b (env, L, none) with
        | some (env', L', _) => some (.rt (.lst (L'.map D.lst)), env')
        | none => none
      | none => none
    else none
  | none => none
theorem nestL_get {m : ME} {v : Nat} {env : Env} : ∀ {ds : List D} {L : List (List D)}, nestL m v env ds = some L → L.length = ds.length ∧ ∀ (i : Nat) d, ds[i]? = some d → ∃ l e', L[i]? = some l ∧ m (env.set v (.val d)) = some (.lst l, e')
  | [], L, h => by
    unfold nestL at h
    cases h
    exact ⟨rfl, fun i d e => by simp at e⟩
  | d :: ds, L, h => by
    unfold nestL at h
    split at h
    · rename_i l e' hm
      split at h
      · rename_i L1 h1
        cases h
        obtain ⟨a, b⟩ := nestL_get h1
        refine ⟨by simp [a], fun i d' e => ?_⟩
        cases i with
        | zero => simp at e; subst e; exact ⟨l, e', rfl, hm⟩
        | succ i => simpa using b i d' (by simpa using e)
      · cases h
    · cases h
theorem reps_lsts {H : Hp} : ∀ {qs : List Addr} {L : List (List D)}, qs.length = L.length → (∀ (i : Nat) q l, qs[i]? = some q → L[i]? = some l → ∃ xs, H q = some (.lst xs) ∧ Reps K H xs l) → Reps K H (qs.map V.ref) (L.map D.lst)
  | [], [], _, _ => .nil
  | [], _ :: _, h, _ => by simp at h
  | _ :: _, [], h, _ => by simp at h
  | q :: qs, l :: L, h, g => by
    obtain ⟨xs, h1, h2⟩ := g 0 q l rfl rfl
    exact .cons (.lst h1 h2) (reps_lsts (by simpa using h) fun i q' l' hq hl => g (i + 1) q' l' (by simpa using hq) (by simpa using hl))
theorem simS_nest {wi : TI} {mi : Env → Option (List D × Env)} {v : Nat} {tb : TS} {b : ZS → Option ZS} (h1 : ir ≠ iw) (hi : SimI K wi mi) (he : SimN K te m) (hb : SimZ K ir iw tb b) :
    SimS K (tSeq (tAsg (L2.tLc wi (gName v) tYes te [v]) (gName ir)) (tSeq tb (tRet (tVar ir)))) (mNest mi v m ir iw b) := fun C F σ H env fl env' D0 r e q => by
  unfold mNest at e
  split at e
  · rename_i ds env0 hm
    split at e
    · rename_i hc
      obtain ⟨hof, hlen, hur, huw⟩ := hc
      have own := ownfree_at hof
      have hur := isUn_at hur
      have huw := isUn_at huw
      split at e
      · rename_i L hL
        split at e
        · rename_i env2 Lb al2 hb2
          cases e
          obtain ⟨hLl, hLg⟩ := nestL_get hL
          refine hi C F σ H env ds env0 _ r hm fun J G Y H1 w stab yl r1' e1 => ?_
          have r1 : Rel K C F σ H1 env := r.again r1' own e1
          intro D hD
          have hpl : plainAt env [v] = true := by
            unfold plainAt
            simp only [List.all_cons, List.all_nil, Bool.and_true]
            split
            · rename_i b' d' hx; exact absurd hx (own v b' d')
            · rfl
          have nop := r1.nopar hpl
          have wown : ∀ (j : Nat) b d, (wipeE env [v])[j]? ≠ some (.own b d) := fun j b d z => by
            by_cases hj : j ∈ [v]
            · by_cases hl : j < env.length
              · rw [wipeE_in hj hl] at z; cases z
              · rw [List.getElem?_eq_none (by rw [wipeE_length]; omega)] at z; cases z
            · rw [wipeE_out hj] at z; exact own j b d z
          have rD : RC K C D [] (D :: F) (L2.wipe σ [v]) (upd H1 D (.lst [])) (wipeE env [v]) [] :=
            ⟨(r1.wiped nop).laid hD, wown, upd_same, by simp, fun q hq => by
              cases List.mem_singleton.mp hq
              exact ⟨List.mem_cons_self .., r1.h0 hD, r1.nopin hD⟩, rfl, fun i q l hq => by simp at hq⟩
          have exD : Ex (off F H1) (off (D :: F) (upd H1 D (.lst []))) := off_cons hD
          have hset : ∀ d, (wipeE env [v]).set v (Sl.val d) = env.set v (.val d) := fun d => by
            show (env.set v .un).set v (.val d) = _
            rw [List.set_set]
          refine L2.lc_it w (g := gName v) (tt := tYes) (te := te) (vs := [v]) (σ := σ) (H1 := H1) (D := D)
            (fun i H' => ∃ qs Fi, RC K C D qs Fi (L2.wipe σ [v]) H' (wipeE env [v]) (L.take i) ∧ Ex (off F H1) (off Fi H') ∧ (∀ x ∈ F, x ∈ Fi) ∧ ∀ q ∈ D :: qs, q ∉ F)
            ⟨[], D :: F, by simpa using rD, exD, fun x hx => List.mem_cons_of_mem _ hx, fun q hq z => by
              cases List.mem_singleton.mp hq
              exact r1.notin hD z⟩ (fun i H' _ ⟨_, Fi, _, ex, _⟩ => stab Fi H' ex) (fun i x H2 H3 hlt ⟨qs, Fi, rc, ex, sub, nF⟩ y => ?_) (fun H' ⟨qs, Fi, rc, ex, sub, nF⟩ => ?_)
          · have hd : ds[i]? = some ds[i] := List.getElem?_eq_getElem hlt
            obtain ⟨ex4, p4⟩ := yl i H2 x H3 Fi ds[i] hd rc.rel.live ex y
            have rc3 := (rc.grow ex4)
            have rc4 := rc3.set (i := v) p4
            rw [hset] at rc4
            have hw : L2.wipe ((L2.wipe σ [v]).set v (some x)) [v] = L2.wipe σ [v] := wipe_same (by rw [List.length_set, L2.wipe_length]) fun j hj => List.getElem?_set_ne (fun z => hj (by simp [z]))
            refine ⟨hw, ?_⟩
            unfold tYes
            dsimp only
            rw [if_pos rfl]
            obtain ⟨l, e', hl, hml⟩ := hLg i _ hd
            refine he _ Fi _ H3 _ _ e' _ rc4.pin hml fun p' H5 hp' hs5 r5 e5 o5 => ?_
            obtain ⟨xs5, hx5, rx5⟩ := o5
            have rc5 := rc3.step (σ' := (L2.wipe σ [v]).set v (some x)) (env' := e') r5 e5
            have np : p' ∉ D :: qs := fun z => by
              obtain ⟨o, ho⟩ := rc3.live p' z
              rw [hp'] at ho; cases ho
            have hql : qs.length = i := by
              have := rc.len
              rw [List.length_take] at this; omega
            have DF : D ∈ p' :: Fi := (rc5.inF D (List.mem_cons_self ..)).1
            have eo : off (p' :: Fi) (upd H5 D (.lst (qs.map V.ref ++ [V.ref p']))) = off (p' :: Fi) H5 := off_upd DF
            have D0' := rc5.inF D (List.mem_cons_self ..)
            refine ⟨qs.map V.ref, rc5.top, Nat.lt_of_le_of_lt (show (qs.map V.ref).length ≤ 100000 by rw [List.length_map]; omega) (by decide), qs ++ [p'], p' :: Fi, ⟨rc5.rel.updF DF D0'.2.1 D0'.2.2 (fun j b e h => absurd h (rc5.own j b e)), rc5.own, by rw [upd_same]; simp, ?_, ?_, ?_, ?_⟩, ?_, fun x hx => List.mem_cons_of_mem _ (sub x hx), ?_⟩
            · have n0 := rc5.nd
              rw [← List.cons_append, List.nodup_append]
              refine ⟨n0, by simp, fun a ha b hb => ?_⟩
              cases List.mem_singleton.mp hb
              exact fun z => np (z ▸ ha)
            · intro q hq
              rw [← List.cons_append, List.mem_append] at hq
              rcases hq with hq | hq
              · exact rc5.inF q hq
              · cases List.mem_singleton.mp hq
                exact ⟨List.mem_cons_self .., rc3.rel.h0 hp', rc3.rel.nopin hp'⟩
            · rw [List.length_append, List.length_take]; have := (List.getElem?_eq_some_iff.mp hl).1; simp; omega
            · intro k q2 l2 hq2 hl2
              rw [eo]
              by_cases hk : k < qs.length
              · rw [List.getElem?_append_left hk] at hq2
                have hl3 : (L.take i)[k]? = some l2 := by
                  rw [List.getElem?_take] at hl2 ⊢
                  rw [if_pos (by omega)] at hl2 ⊢
                  exact hl2
                obtain ⟨xs2, a2, b2⟩ := rc5.it k q2 l2 hq2 hl3
                have nD : q2 ≠ D := fun z => (List.nodup_cons.mp rc5.nd).1 (z ▸ List.mem_of_getElem? hq2)
                exact ⟨xs2, by rw [upd_ne nD]; exact a2, b2⟩
              · have hk2 : k = qs.length := by
                  have := (List.getElem?_eq_some_iff.mp hq2).1
                  simp at this; omega
                subst hk2
                rw [List.getElem?_append_right (Nat.le_refl _)] at hq2
                simp at hq2
                subst hq2
                rw [List.getElem?_take, if_pos (by omega), hql, hl] at hl2
                cases hl2
                have nD : p' ≠ D := fun z => np (by rw [z]; exact List.mem_cons_self ..)
                exact ⟨xs5, by rw [upd_ne nD]; exact hx5, rx5⟩
            · rw [eo]; exact (ex.trans (off_mono ex4)).trans e5
            · intro q hq
              rw [← List.cons_append, List.mem_append] at hq
              rcases hq with hq | hq
              · exact nF q hq
              · cases List.mem_singleton.mp hq
                exact fun z => rc3.rel.notin hp' (sub _ z)
          · have hq0 : L.take ds.length = L := List.take_of_length_le (by omega)
            rw [hq0] at rc
            have r2 : Rel K C Fi σ H' env := r1.again rc.rel own ex
            have hu : ∀ d, env[ir]? ≠ some (.val d) := fun d z => by rw [hur] at z; cases z
            have hl1 : ir < σ.length := by rw [r.len]; exact (List.getElem?_eq_some_iff.mp hur).1
            have hl2 : iw < σ.length := by rw [r.len]; exact (List.getElem?_eq_some_iff.mp huw).1
            have rn : RN K C ir iw D qs Fi (σ.set ir (some (.ref D))) H' env L none :=
              ⟨⟨r2.setUn own hu, own, rc.top, rc.nd, rc.inF, rc.len, rc.it⟩, by rw [List.getElem?_set_self hl1], fun j hj => (by cases hj), fun d z => (by rw [huw] at z; cases z), by rw [List.length_set]; exact hl2⟩
            refine hb C D qs Fi _ H' (env, L, none) (env', Lb, al2) _ rn hb2 fun σ7 H7 rn7 e7 => ?_
            refine ⟨_, rn7.sr, ?_⟩
            have ex7 : Ex (off F H) (off Fi H7) := (e1.trans ex).trans e7
            have notF : ∀ q ∈ D :: qs, q ∉ F := nF
            have r8 : Rel K C F σ7 H7 env' := ⟨rn7.rel.len, fun i d z => let ⟨v, a, b⟩ := rn7.rel.vals i d z; ⟨v, a, b.mono (off_sub sub)⟩, fun i b d z => absurd z (rn7.own i b d), fun i j b c d e p _ z => absurd z (rn7.own i b d), rn7.rel.pars, r.sub, rn7.rel.old, fun x hx => rn7.rel.live x (sub x hx), r.base, r.pmF, fun a o z => ⟨(rn7.rel.pins a o z).1, (r.pins a o z).2.1, fun i b d w => absurd w (rn7.own i b d)⟩⟩
            refine q F σ7 H7 r8 ?_ (.ref D) ?_
            · exact ex7.trans (off_sub sub)
            · refine .lst (by rw [off_out (notF D (List.mem_cons_self ..))]; exact rn7.top) ?_
              refine reps_lsts rn7.len fun i q l hq hl => ?_
              obtain ⟨xs, a, b⟩ := rn7.it i q l hq hl
              exact ⟨xs, by rw [off_out (notF q (List.mem_cons_of_mem _ (List.mem_of_getElem? hq)))]; exact a, b.mono (off_sub sub)⟩
        · cases e
      · cases e
    · cases e
  · cases e
end
end Mir
/-! list(range(n)), tuple(range(n)), list(reversed(x)), index of a whole number. -/
namespace Mir
open PySem PySem.Spec PyProof.Rows
section
variable {prog : Program} {w : World} {A : Around} {E : Value → Shared → Prop} {s : Shared}
theorem list_init_rev {R : Result → Shared → Prop} {it l S : Addr} {items : Array Value} (hh : A.handled = none) (hit : s.heap.IsRevIter it l ((items.size : Int) - 1)) (hl : s.heap.IsList l items) (hne : l ≠ it) (hn : items.size ≤ sizeLine)
    (hSi : S ≠ it) (hSl : S ≠ l) (hS : s.heap.get? S = some { cls := .type "list", data := .seq #[] })
    (hR : ∀ h' tk acc' c', (∀ b o, b ≠ S → b ≠ it → s.heap.get? b = some o → h'.get? b = some o) → h'.get? S = some { cls := .type "list", dict := none, data := .seq acc' c', slots := #[] } →
      ItemsOf (fun i v => items[items.size - 1 - i]? = some v) acc' items.size → R (.ok (.ret .none)) { s with heap := h', toks := tk }) :
    wpAny (model prog w) A.in1 (Builtin.«list.__init__» ⟨[.ref S, .ref it], []⟩)
      (fun fin s' => match fin with | .done f => R (.ok f) s' | .again c' => c'.quiet = true ∧ codeAny (model prog w) A c' R s') (fun e s' => R (.error e) s') s := by
  have W := (Walks.listRev (prog := prog) (w := w) (A := A.in1) hh it l hne items).toS
  have hSf : S ∉ [it, l] := by simp only [List.mem_cons, List.not_mem_nil, or_false, not_or]; exact ⟨hSi, hSl⟩
  show wpAny _ _ (do let old ← Builtin.List.listItems (.ref S); Builtin.List.listUpdate (.ref S) (fun _ => #[]); letGo old.toList.reverse; Builtin.List.listExtendWith (.ref S) (.ref it) .none) _ _ s
  refine wpAny_bind ?_
  unfold Builtin.List.listItems
  refine wpAny_bind (wpAny_seqItems hS rfl (wpAny_pure ?_))
  show wpAny _ _ (updateSeq S (fun _ => #[]) >>= fun _ => letGo (#[] : Array Value).toList.reverse >>= fun _ => Builtin.List.listExtendWith (.ref S) (.ref it) .none) _ _ s
  refine wpAny_bind (wpAny_updateSeq hS rfl ?_)
  have hS₂ := Heap.get?_update_self (Obj.mapSeq (fun _ => (#[] : Array Value))) hS rfl
  have oth : ∀ b o, b ≠ S → s.heap.get? b = some o → (s.heap.update S (Obj.mapSeq (fun _ => (#[] : Array Value)))).get? b = some o :=
    fun b o hb e => (Heap.get?_update_other _ _ (Ne.symm hb)).trans e
  refine wpAny_bind (wpAny_letGo ?_)
  have hit1 : (s.heap.update S (Obj.mapSeq (fun _ => (#[] : Array Value)))).IsRevIter it l ((items.size : Int) - 1) := hit.at fun o e => oth it o hSi.symm e
  have hl1 : (s.heap.update S (Obj.mapSeq (fun _ => (#[] : Array Value)))).IsList l items := hl.at fun o e => oth l o hSl.symm e
  have hT : ({ s with heap := s.heap.update S (Obj.mapSeq (fun _ => (#[] : Array Value))) } : Shared).TypeIs (.ref it) "list_reverseiterator" := Heap.IsRevIter.typeIs (s := { s with heap := s.heap.update S (Obj.mapSeq (fun _ => (#[] : Array Value))) }) hit1
  have h1 : Builtin.List.listSameRef (.ref S) (.ref it) = false := by simp [Builtin.List.listSameRef, hSi]
  unfold Builtin.List.listExtendWith
  refine wpAny_bind (wpAny_typeOf hT ?_)
  rw [if_neg (by rw [h1]; decide)]
  refine wpAny_bind (wpAny_pyIter_revIter (s := { s with heap := s.heap.update S (Obj.mapSeq (fun _ => (#[] : Array Value))) }) hit1 ?_)
  refine wpAny_bind (wpAny_holding ?_)
  unfold Builtin.List.listLengthHint
  refine wpAny_bind (wpAny_specialOf hT RT.nolen_lri ?_)
  show wpAny _ A.in1 (specialOf (Value.ref it) (Str.ofString "__length_hint__") >>= _) _ _ _
  refine wpAny_bind (wpAny_specialOf hT RT.hint_lri ?_)
  generalize hid : ("list_reverseiterator.__length_hint__" : String) = id0
  wp_delta
  rw [show splitId id0 = some ("list_reverseiterator", "__length_hint__") from by subst hid; decide +kernel]
  subst hid
  refine wpAny_bind (wpAny_isInstance (b := true) hT (by rw [isSubtype_type]; kernel_rfl) ?_)
  refine wpAny_pure ?_
  rw [if_neg (by decide)]
  have e0 : ((items.size : Nat) : Int) - 1 - ((0 : Nat) : Int) = (items.size : Int) - 1 := by omega
  refine wpAny_pure ⟨plainId_quiet F.plain_extend_loop _, codeAny_extend_loopS W hn _ hSf _ items.size 0 _ _ _ rfl (Nat.zero_le _) ⟨Nat.zero_le _, by rw [e0]; exact hit1, hl1⟩ hS₂ (ItemsOf.nil _) fun s' acc' c' hm hS' hacc => ?_⟩
  rw [Moved.eq_with hm]
  refine hR s'.heap s'.toks acc' c' (fun b o hb hbi e => hm.heap b o (fun hmem => ?_) (oth b o hb e)) hS' hacc
  rcases List.mem_cons.mp hmem with e' | hmem
  · exact hb e'
  · exact hbi (List.mem_singleton.mp hmem)
theorem call_list_rev {Q : Value → Shared → Prop} {it l : Addr} {items : Array Value} (hh : A.handled = none) (hit : s.heap.IsRevIter it l ((items.size : Int) - 1)) (hl : s.heap.IsList l items) (hne : l ≠ it) (hn : items.size ≤ sizeLine)
    (hQ : ∀ h' tk acc' c', (∀ b o, b ≠ it → s.heap.get? b = some o → h'.get? b = some o) →
      h'.get? s.heap.objs.size = some { cls := .type "list", dict := none, data := .seq acc' c', slots := #[] } → ItemsOf (fun i v => items[items.size - 1 - i]? = some v) acc' items.size → Q (.ref s.heap.objs.size) { s with heap := h', toks := tk }) :
    wpAny (model prog w) A (call (.type "list") [.ref it]) Q E s := by
  obtain ⟨oi, hoi, _⟩ := id hit
  obtain ⟨ol, hol, _⟩ := id hl
  refine callType_codes (Q₁ := fun obj s₁ => obj = .ref s.heap.objs.size ∧ s₁ = { s with heap := s.heap.push { cls := .type "list", data := .seq #[] } }) F.called_list (F.typeCall_list_1 _) F.entry_list_init
    (code_list_new _ ⟨rfl, rfl⟩) fun obj s₁ h₁ => ?_
  obtain ⟨rfl, rfl⟩ := h₁
  have hS : (s.heap.push { cls := .type "list", data := .seq #[] }).get? s.heap.objs.size = some { cls := .type "list", data := .seq #[] } := Heap.get?_push_size _ rfl
  refine ⟨⟨_, hS, rfl⟩, F.args_list_init_2 _ _, list_init_rev (s := { s with heap := s.heap.push { cls := .type "list", data := .seq #[] } }) (A := A.in1) hh (hit.at fun o e => Heap.get?_push_of_some _ e) (hl.push _) hne hn (Nat.ne_of_gt (Heap.lt_size hoi)) (Nat.ne_of_gt (Heap.lt_size hol)) hS fun h' tk acc' c' hk hS' hacc => ?_⟩
  exact ⟨rfl, hQ h' tk acc' c' (fun b o hb e => hk b o (Nat.ne_of_lt (Heap.lt_size e)) hb (Heap.get?_push_of_some _ e)) hS' hacc⟩
end
open L2
section
variable {X : Cx} {tg : Expr}
def tLstRev (K : PySem.W.Frag) (te : TE) : TE := fun σ H Q => te σ H fun v H1 => ∃ (a : Addr) (xs : List V), v = .ref a ∧ SqL K H1 a xs ∧ ∀ q, H1 q = none → Q (.ref q) (upd H1 q (.lst xs.reverse))
theorem pe_lstRev {e : Expr} {te : TE} {p p2 pos pos2 : Pos} (hc : X.calm = true) (hg : Gl X "list") (hm : X.mg "list" = none) (hg2 : Gl X "reversed") (hm2 : X.mg "reversed" = none) (he : PE X e te)
    (hs : starEach [e] X.env = (false, eval e X.env) :: starEach [] X.env := by rfl)
    (hs2 : starEach [.Call (.Name "reversed" p2) [e] [] pos2] X.env = (false, eval (.Call (.Name "reversed" p2) [e] [] pos2) X.env) :: starEach [] X.env := by rfl) :
    PE X (.Call (.Name "list" p) [.Call (.Name "reversed" p2) [e] [] pos2] [] pos) (tLstRev X.K te) := by
  refine ⟨fun pins s σ H Q I h => ?_⟩
  refine Call_ (ld_blt I hg hm boot_list (PyProof.Rows.callWith_type1 (args_cons (Call_ (ld_blt I hg2 hm2 PyProof.Rows.boot_reversed (PyProof.Rows.callWith_type1 (args_cons (thn (he.run pins s σ H _ I h) fun u s1 ⟨v, H1, I1, r1, q1⟩ => args_nil ?_) hs) hs rfl))) hs2) hs2 rfl))
  obtain ⟨a, xs, ev, hq, q⟩ := q1
  subst ev
  obtain rfl : u = Value.ref a := r1
  obtain ⟨its, rv, p', hz⟩ := I1.list hq
  refine call_reversed_list p'.isList (args_nil ?_)
  have k0 : ∀ b o, s1.heap.get? b = some o → (s1.heap.push (revObj a ((its.toArray.size : Int) - 1))).get? b = some o := fun b o e => Heap.get?_push_of_some _ e
  have I2 : Inv X pins σ H1 { s1 with heap := s1.heap.push (revObj a ((its.toArray.size : Int) - 1)) } := I1.kept (t' := s1.toks) k0
  obtain ⟨f0, f1, f2, f3, f4, f5⟩ := I1.fpOk (H' := H1) (b := s1.heap.objs.size) (Nat.le_refl _) (I1.hok.fresh (Nat.le_refl _))
  have hl := p'.isList
  obtain ⟨ol, hol, _⟩ := id hl
  have hne : a ≠ s1.heap.objs.size := Nat.ne_of_lt (Heap.lt_size hol)
  have hn : its.toArray.size ≤ sizeLine := by rw [List.size_toArray, ← rv.length]; exact hz
  refine call_list_rev (s := { s1 with heap := s1.heap.push (revObj a ((its.toArray.size : Int) - 1)) }) (I1.ok.hd hc) ⟨_, Heap.get?_push_size _ rfl, rfl, rfl⟩ (hl.push _) hne hn fun h' tk acc c' hk e' hi => ?_
  have hsz : (s1.heap.push (revObj a ((its.toArray.size : Int) - 1))).objs.size = s1.heap.objs.size + 1 := by simp [Heap.push]
  have hk1 : ∀ b o, s1.heap.get? b = some o → h'.get? b = some o := fun b o q2 => hk b o (Nat.ne_of_lt (Heap.lt_size q2)) (k0 b o q2)
  refine ⟨.ref (s1.heap.push (revObj a ((its.toArray.size : Int) - 1))).objs.size, upd H1 (s1.heap.push (revObj a ((its.toArray.size : Int) - 1))).objs.size (.lst xs.reverse), I1.laid hk1 (by rw [hsz]; omega) (show ObjOk X.prog X.w _ _ _ (.lst xs.reverse) from ⟨by rw [List.length_reverse]; exact hz, acc.toList, c', RT.vals_rev rv hi, ?_⟩), rfl, q _ (I1.hok.fresh (by rw [hsz]; omega))⟩
  rw [Array.toArray_toList]; exact e'
/-- tuple(range(..)): a new tuple whose object is known -/
def tTupRgF (te : L2.St → Hp → (Int → Int → Hp → Prop) → Prop) : TE := fun σ H Q => te σ H fun a b H1 => RgOk a b ∧ NewT H1 (rgV a b) Q
theorem pe_tupRgF {e : Expr} {te : L2.St → Hp → (Int → Int → Hp → Prop) → Prop} {p pos : Pos} (hc : X.calm = true) (hg : Gl X "tuple") (hm : X.mg "tuple" = none) (he : PRg X e te) (na : starEach [e] X.env = (false, eval e X.env) :: starEach [] X.env := by rfl) : PE X (.Call (.Name "tuple" p) [e] [] pos) (tTupRgF te) := by
  refine ⟨fun pins s σ H Q I h => ?_⟩
  refine Call_ (ld_blt I hg hm boot_tuple (PyProof.Rows.callWith_type1 (args_cons (thn (he pins s σ H _ I h) fun x s1 ⟨r, a, b, t, u, v, H1, ex, hr, I1, ok, q⟩ => args_nil ?_) na) na))
  subst ex
  obtain ⟨b1, b2, b3, b4, b5⟩ := ok
  refine call_tuple_range (n := (b - a).toNat) (I1.ok.hd hc) hr (small_one b1 b2 b3 b4) (rangeSize_nat a b) b5 fun h' tk acc hk hi => ?_
  have I2 : Inv X pins σ H1 { s1 with heap := h', toks := tk } := I1.kept hk
  have hv := vals_rg hi
  have := laidT I2 hv (by rw [rgV_length, sizeLine_eq]; omega) q
  rwa [Array.toArray_toList] at this
end
/-! ### Sim -/
section
variable {K : Fg} {te : TE} {m : ME}
def mRev (m : ME) : ME := fun env => match m env with
  | some (.lst ds, env1) => some (.lst ds.reverse, env1)
  | _ => none
theorem simN_rev (h : SimE K te m) : SimN K (tLstRev K te) (mRev m) := fun C F σ H env d env' Q rl e q => by
  unfold mRev at e
  split at e
  · rename_i ds env1 h1
    cases e
    refine h C F σ H env _ env' _ rl h1 fun v H1 r1 e1 p1 => ?_
    cases p1 with
    | lst ht rs =>
      rename_i a xs
      refine ⟨a, xs, rfl, .inl (.inl (off_ex _ _ ht)), fun p hp => ?_⟩
      have oc : Ex (off F H1) (off (p :: F) (upd H1 p (.lst xs.reverse))) := off_cons hp
      exact q p _ (rl.new0 r1 e1 hp) (fun j b e he => r1.noslot hp he) (r1.laid hp) (e1.trans oc) ⟨_, upd_same, rs.reverse.mono oc⟩
  · cases e
def mRng1 (a : Arg) (c : List D → D) : ME := fun env => match a.run env with
  | some (r, env1) => match getA env1 r with
    | some (.int j) => if -(2 ^ 60) ≤ j ∧ j ≤ 100000 then some (c (rngL 0 j.toNat), env1) else none
    | _ => none
  | none => none
theorem rng_rep {H : Hp} (j : Int) : Reps K H (rgV 0 j) (rngL 0 j.toNat) := by
  unfold rgV rngL
  have : (j - 0).toNat = j.toNat := by omega
  rw [this]
  generalize List.range j.toNat = l
  induction l with
  | nil => exact .nil
  | cons x l ih => exact .cons (.int _) ih
theorem simN_rng1 {a : Arg} (h : SimX K te a) : SimN K (tLstRg (tRg1 te)) (mRng1 a .lst) := fun C F σ H env d env' Q rl e q => by
  unfold mRng1 at e
  split at e
  · rename_i x env1 h1
    split at e
    · rename_i j hx
      split at e
      · rename_i hj
        cases e
        refine h C F σ H env x env' _ rl h1 fun v H1 r1 e1 p1 => ?_
        refine ⟨j, (p1.val r1 hx).int, ⟨by omega, by omega, by omega, by omega, by omega⟩, fun p hp => ?_⟩
        have oc : Ex (off F H1) (off (p :: F) (upd H1 p (.lst (rgV 0 j)))) := off_cons hp
        exact q p _ (rl.new0 r1 e1 hp) (fun j b e he => r1.noslot hp he) (r1.laid hp) (e1.trans oc) ⟨_, upd_same, rng_rep j⟩
      · cases e
    · cases e
  · cases e
theorem sim_rngT {a : Arg} (h : SimX K te a) : SimE K (tTupRgF (tRg1 te)) (mRng1 a .tup) := fun C F σ H env d env' Q rl e q => by
  unfold mRng1 at e
  split at e
  · rename_i x env1 h1
    split at e
    · rename_i j hx
      split at e
      · rename_i hj
        cases e
        refine h C F σ H env x env' _ rl h1 fun v H1 r1 e1 p1 => ?_
        refine ⟨j, (p1.val r1 hx).int, ⟨by omega, by omega, by omega, by omega, by omega⟩, fun p o hp fz => ?_⟩
        obtain ⟨e2, r2⟩ := new_tup r1.live hp fz (rng_rep (K := K) (H := off F H1) j)
        exact q _ _ (r1.grow e2) (e1.trans (off_mono e2)) r2
      · cases e
    · cases e
  · cases e
/-! index, of texts or whole numbers -/
def idxI (a b : D) : Option D := match a with
  | .lst ds => match b with
    | .int z => match intsOf ds with
      | some is => match is.findIdx? (· == z) with
        | some j => some (.int (j : Nat))
        | none => none
      | none => none
    | _ => none
  | _ => none
theorem findI_facts {ys : List Int} {z : Int} {j : Nat} (h : ys.findIdx? (· == z) = some j) : ys[j]? = some z ∧ ∀ m, m < j → ys[m]? ≠ some z := by
  rw [List.findIdx?_eq_some_iff_getElem] at h
  obtain ⟨hj, h1, h2⟩ := h
  refine ⟨?_, fun m hm e => ?_⟩
  · rw [List.getElem?_eq_getElem hj, beq_iff_eq.mp h1]
  · obtain ⟨hl, e⟩ := List.getElem?_eq_some_iff.mp e
    have := h2 m hm
    rw [e] at this
    simp at this
theorem flat_ints (ys : List Int) : (ys.map V.int).all flatV = true := by
  rw [List.all_eq_true]
  intro v hv
  obtain ⟨i, _, rfl⟩ := List.mem_map.mp hv
  rfl
theorem eqV_int {a b : Int} : eqV (.int a) (.int b) = (a == b) := rfl
def mIdxI (m : ME) (b : Arg) : ME := fun env => match m env with
  | some (dx, env1) => match b.run env1 with
    | some (y, env2) => match getA env2 y with
      | some dy => match idxI dx dy with
        | some d => some (d, env2)
        | none => none
      | none => none
    | none => none
  | none => none
theorem sim_idxI {ta tb : TE} {m : ME} {b : Arg} (ha : SimE K ta m) (hb : SimX K tb b) : SimE K (tBM K "list" (rIndex K) ta (tCons tb tNil)) (mIdxI m b) := fun C F σ H env d env' Q rl e q => by
  unfold mIdxI at e
  split at e
  · rename_i dx env1 h1
    split at e
    · rename_i y env2 h2
      split at e
      · rename_i dy hy
        split at e
        · rename_i d' hd
          cases e
          unfold idxI at hd
          split at hd
          · rename_i ds
            split at hd
            · rename_i z
              split at hd
              · rename_i ys hys
                split at hd
                · rename_i j hj
                  cases hd
                  obtain ⟨f1, f2⟩ := findI_facts hj
                  refine ha C F σ H env (.lst ds) env1 _ rl h1 fun v1 H1 r1 e1 p1 => ?_
                  cases p1 with
                  | lst ht rs =>
                    rename_i a xs
                    have hxs : xs = ys.map V.int := ints_ok rs hys
                    refine ⟨.inl ⟨rfl, _, SqL.of (off_ex _ _ ht)⟩, ?_⟩
                    refine hb C F σ H1 env1 y env' _ r1 h2 fun v2 H2 r2 e2 p2 => ?_
                    rw [(p2.val r2 hy).int]
                    refine ⟨_, xs, .int z, j, .int z, rfl, rfl, SqL.of (off_ex _ _ (e2 _ _ ht)), rfl, by rw [hxs]; exact flat_ints ys, by rw [hxs, List.getElem?_map, f1]; rfl, by rw [eqV_int]; exact beq_self_eq_true z, fun m z' hm hz' => ?_, q _ H2 r2 (e1.trans e2) (.int _)⟩
                    rw [hxs, List.getElem?_map] at hz'
                    cases hm' : ys[m]? with
                    | none => rw [hm'] at hz'; cases hz'
                    | some w =>
                      rw [hm'] at hz'
                      cases hz'
                      rw [eqV_int]
                      exact beq_eq_false_iff_ne.mpr fun e => f2 m hm (by rw [hm', e])
                · cases hd
              · cases hd
            · cases hd
          · cases hd
        · cases e
      · cases e
    · cases e
  · cases e
end
end Mir
/-! W for dicts, new lists by operators, nests. -/
namespace Mir
open PySem L2
section
variable {env : Env} {Q : D → Env → Prop} {R : D → Prop} {S : Fl → Env → Prop} {m mi mv : ME} {a b : Arg} {i : Nat}
theorem with_W {α β : Type} {o : Option (α × β)} {Q : α → β → Prop} : W o Q ↔ ∃ x y, o = some (x, y) ∧ Q x y := by
  refine ⟨fun h => h.ex, fun ⟨x, y, h, q⟩ => W.of h q⟩
theorem with_Wo {α : Type} {o : Option α} {Q : α → Prop} : Wo o Q ↔ ∃ x, o = some x ∧ Q x := by
  refine ⟨fun h => h.ex, fun ⟨x, h, q⟩ => Wo.of h q⟩
@[simp] theorem w_opN {f : D → D → Option (List D)} : W (mOpN f a b env) Q ↔ W (a.run env) fun x e1 => W (b.run e1) fun y e2 => Wo (getA e2 x) fun dx => Wo (getA e2 y) fun dy => Wo (f dx dy) fun ds => Q (.lst ds) e2 := by
  unfold mOpN
  rcases a.run env with _ | ⟨x, e1⟩
  · simp
  · simp only [W_some]
    rcases b.run e1 with _ | ⟨y, e2⟩
    · simp
    · simp only [W_some]
      rcases getA e2 x with _ | dx
      · simp
      · simp only [Wo_some]
        rcases getA e2 y with _ | dy
        · simp
        · simp only [Wo_some]
          rcases f dx dy with _ | ds <;> simp
@[simp] theorem w_rev : W (mRev m env) Q ↔ W (m env) fun d e => Wo (lstD d) fun ds => Q (.lst ds.reverse) e := by
  unfold mRev
  rcases m env with _ | ⟨_ | _ | _ | _ | _ | ds | _ | _ | _ | _, e1⟩ <;> simp [lstD]
@[simp] theorem w_mrng {c : List D → D} : W (mRng1 a c env) Q ↔ W (a.run env) fun r e => Wo (getA e r) fun d => Wo (intD d) fun j => (-(2 ^ 60) ≤ j ∧ j ≤ 100000) ∧ Q (c (rngL 0 j.toNat)) e := by
  unfold mRng1
  rcases a.run env with _ | ⟨r, e1⟩
  · simp
  · simp only [W_some]
    rcases getA e1 r with _ | (_ | _ | _ | _ | _ | _ | _ | _ | _ | _) <;> simp [intD, W_if]
@[simp] theorem w_idxI : W (mIdxI m b env) Q ↔ W (m env) fun dx e1 => W (b.run e1) fun y e2 => Wo (getA e2 y) fun dy => Wo (idxI dx dy) fun d => Q d e2 := by
  unfold mIdxI
  rcases m env with _ | ⟨dx, e1⟩
  · simp
  · simp only [W_some]
    rcases b.run e1 with _ | ⟨y, e2⟩
    · simp
    · simp only [W_some]
      rcases getA e2 y with _ | dy
      · simp
      · simp only [Wo_some]
        rcases idxI dx dy with _ | d <;> simp
theorem wo_idxI {is : List Int} {z : Int} {j : Nat} (h : is.findIdx? (· == z) = some j) : Wo (idxI (.lst (is.map D.int)) (.int z)) R ↔ R (.int (j : Nat)) := by
  have : idxI (.lst (is.map D.int)) (.int z) = some (.int (j : Nat)) := by
    unfold idxI
    dsimp only
    rw [intsOf_map]
    dsimp only
    rw [h]
  rw [this, Wo_some]
@[simp] theorem wo_mulN {ds : List D} {k : Int} {T : List D → Prop} : Wo (mulN (.lst ds) (.int k)) T ↔ (k ≤ 100000 ∧ -100000 ≤ k ∧ ds.length * k.toNat ≤ 100000) ∧ T (List.replicate k.toNat ds).flatten := Wo_if
@[simp] theorem wo_addN {ds es : List D} {T : List D → Prop} : Wo (addN (.lst ds) (.lst es)) T ↔ ds.length + es.length ≤ 100000 ∧ T (ds ++ es) := Wo_if
theorem wo_mulT {ds : List D} {k : Int} (h : ds ≠ []) (h1 : 1 ≤ k) (h2 : k ≤ 1000) (h3 : ds.length ≤ 1000) : Wo (mulDA (.tup ds) (.int k)) R ↔ R (.tup (List.replicate k.toNat ds).flatten) := by
  unfold mulDA
  dsimp only
  rw [if_pos ⟨h, h1, h2, h3⟩, Wo_some]
@[simp] theorem ixDA_l {ds : List D} {y : D} : ixDA (.lst ds) y = ixD (.lst ds) y := rfl
@[simp] theorem ixDA_t {ds : List D} {y : D} : ixDA (.tup ds) y = ixD (.tup ds) y := rfl
@[simp] theorem w_put : W (mPut i mi mv env) S ↔ W (mv env) fun dv e1 => W (ownAt e1 i) fun _ _ => W (mi e1) fun di e2 => W (ownAt e2 i) fun b d0 => Wo (setFD d0 di dv) fun d1 => S .nx (e2.set i (.own b d1)) := by
  unfold mPut ownAt
  rcases mv env with _ | ⟨dv, e1⟩
  · simp
  · simp only [W_some]
    rcases e1[i]? with _ | _ | _ | ⟨b0, d00⟩ <;> simp
    rcases mi e1 with _ | ⟨di, e2⟩
    · simp
    · simp only [W_some]
      rcases e2[i]? with _ | _ | _ | ⟨b, d0⟩ <;> simp
      rcases setFD d0 di dv with _ | d1 <;> simp
end
/-! nests -/
section
variable {env : Env} {L : List (List D)} {al : Option Nat} {Q : ZS → Prop} {a b : ZS → Option ZS} {m mi mv : ME} {z : ZS} {i : Nat}
@[simp] theorem wz_seq : Wo (zSeq a b z) Q ↔ Wo (a z) fun z1 => Wo (b z1) Q := by
  unfold zSeq
  rcases a z with _ | z1 <;> simp
@[simp] theorem wz_asg : Wo (zAsg m i (env, L, al)) Q ↔ W (m env) fun d _ => Q (env.set i (.val d), L, al) := by
  unfold zAsg
  dsimp only
  rcases m env with _ | ⟨d, e⟩ <;> simp
@[simp] theorem wz_row : Wo (zRow m (env, L, al)) Q ↔ W (m env) fun d _ => Wo (intD d) fun k => (0 ≤ k ∧ k.toNat < L.length) ∧ Q (env, L, some k.toNat) := by
  unfold zRow
  dsimp only
  rcases m env with _ | ⟨_ | _ | _ | _ | _ | _ | _ | _ | _ | _, e⟩ <;> simp [intD, Wo_if]
theorem wz_set {j : Nat} {l : List D} {k : Int} {d0 d1 d2 : D} (hl : L[j]? = some l) (hi : W (mi env) fun d _ => d = .int k) (h0 : 0 ≤ k) (hd : l[k.toNat]? = some d0) (hv : W (mv env) fun d _ => d = d1) (ha : addD d0 d1 = some d2) (q : Q (env, L.set j (l.set k.toNat d2), some j)) :
    Wo (zSet mi mv (env, L, some j)) Q := by
  obtain ⟨x, e, h1, rfl⟩ := hi.ex
  obtain ⟨y, e', h2, rfl⟩ := hv.ex
  unfold zSet
  dsimp only
  rw [hl]
  dsimp only
  rw [h1]
  dsimp only
  rw [if_pos h0, hd]
  dsimp only
  rw [h2]
  dsimp only
  rw [ha]
  simp only [Wo_some]
  exact q
theorem wz_for {ni : MI} : Wo (zFor ni i b (env, L, al)) Q ↔ W (ni env) fun ds _ => Wo (zForL i b ds (env, L, al)) Q := by
  unfold zFor
  dsimp only
  rcases ni env with _ | ⟨ds, e⟩ <;> simp
theorem wz_inv {ds : List D} (J : Nat → ZS → Prop) (h0 : J 0 z) (hs : ∀ k d z, ds[k]? = some d → J k z → Wo (b (z.1.set i (.val d), z.2)) (J (k + 1))) (hn : ∀ z, J ds.length z → Q z) : Wo (zForL i b ds z) Q := by
  induction ds generalizing z J with
  | nil =>
    unfold zForL
    rw [Wo_some]
    exact hn z h0
  | cons d ds ih =>
    unfold zForL
    obtain ⟨z1, h1, j1⟩ := (hs 0 d z rfl h0).ex
    rw [h1]
    exact ih (fun k => J (k + 1)) j1 (fun k d' z' hd hj => hs (k + 1) d' z' (by simpa using hd) hj) (fun z' hz => hn z' hz)
theorem nestL_same {v : Nat} {l : List D} (h : ∀ d, W (m (env.set v (.val d))) fun y _ => y = .lst l) : ∀ ds : List D, nestL m v env ds = some (List.replicate ds.length l)
  | [] => rfl
  | d :: ds => by
    obtain ⟨y, e, h1, rfl⟩ := (h d).ex
    unfold nestL
    rw [h1]
    dsimp only
    rw [nestL_same h ds]
    rfl
theorem w_nest {ni : MI} {v ir iw : Nat} {S : Fl → Env → Prop} {l : List D} (h : W (ni env) fun ds _ => (ownfree env = true ∧ ds.length ≤ 100000 ∧ isUn env ir = true ∧ isUn env iw = true) ∧ (∀ d, W (m (env.set v (.val d))) fun y _ => y = .lst l) ∧ Wo (b (env, List.replicate ds.length l, none)) fun z => S (.rt (.lst (z.2.1.map D.lst))) z.1) :
    W (mNest ni v m ir iw b env) S := by
  obtain ⟨ds, e, h1, hc, h2, h3⟩ := h.ex
  obtain ⟨z, h4, h5⟩ := h3.ex
  unfold mNest
  rw [h1]
  dsimp only
  rw [if_pos hc, nestL_same h2]
  dsimp only
  rw [h4]
  simp only [W_some]
  exact h5
end
end Mir
/-! == and != beside an empty tuple or list. -/
namespace Mir
open PySem PySem.Spec PyProof.Rows L2
def rEqE (K : Fg) (g : Bool → Bool) : R2 := fun x y H Q => ∃ (a b : Addr) (xs : List V), x = .ref a ∧ y = .ref b ∧ ((SqT K H a xs ∧ SqT K H b []) ∨ (SqL K H a xs ∧ SqL K H b [])) ∧ Q (.bl (g xs.isEmpty)) H
section
variable {X : Cx}
theorem op_eqE (hu : X.A.units + 64 < cLine) : OpR X (compareOp .Eq) (rEqE X.K id) := by
  intro pins s σ H x y v u Q I rx ry h
  obtain ⟨a, b, xs, rfl, rfl, hh, q⟩ := h
  cases rx
  cases ry
  rcases hh with ⟨ha, hb⟩ | ⟨ha, hb⟩
  · obtain ⟨its, r1, p1, _⟩ := I.tuple ha
    obtain ⟨its2, r2, p2, _⟩ := I.tuple hb
    cases r2
    have R := SeqAt.RcAt.tuples (A := X.A) (s := s) (e := fun _ => true) p1 p2 (by omega) (fun j h1 h2 => absurd h2 (by simp))
    refine R X.prog X.w X.xe (EP X pins σ Q) ⟨.bl _, H, I, ?_, q⟩
    cases r1 <;> simp [L2.RelV]
  · obtain ⟨its, r1, p1, _⟩ := I.list ha
    obtain ⟨its2, r2, p2, _⟩ := I.list hb
    cases r2
    cases r1 with
    | nil =>
      have R := SeqAt.RcAt.lists (A := X.A) (s := s) (e := fun _ => true) p1.isList p2.isList rfl (by omega) (fun j h1 h2 => absurd h2 (by simp))
      exact R X.prog X.w X.xe (EP X pins σ Q) ⟨.bl _, H, I, by simp [L2.RelV], q⟩
    | cons _ _ =>
      have R := SeqAt.RcAt.lists_lengths (A := X.A) (s := s) p1.isList p2.isList (by simp) (by omega)
      exact R X.prog X.w X.xe (EP X pins σ Q) ⟨.bl _, H, I, by simp [L2.RelV], q⟩
theorem op_neE (hu : X.A.units + 64 < cLine) : OpR X (compareOp .NotEq) (rEqE X.K not) := by
  intro pins s σ H x y v u Q I rx ry h
  obtain ⟨a, b, xs, rfl, rfl, hh, q⟩ := h
  cases rx
  cases ry
  rcases hh with ⟨ha, hb⟩ | ⟨ha, hb⟩
  · obtain ⟨its, r1, p1, _⟩ := I.tuple ha
    obtain ⟨its2, r2, p2, _⟩ := I.tuple hb
    cases r2
    have R := SeqAt.RcNeAt.tuples (A := X.A) (s := s) (e := fun _ => true) p1 p2 (by omega) (fun j h1 h2 => absurd h2 (by simp))
    refine R X.prog X.w X.xe (EP X pins σ Q) ⟨.bl _, H, I, ?_, q⟩
    cases r1 <;> simp [L2.RelV]
  · obtain ⟨its, r1, p1, _⟩ := I.list ha
    obtain ⟨its2, r2, p2, _⟩ := I.list hb
    cases r2
    cases r1 with
    | nil =>
      have R := SeqAt.RcNeAt.lists (A := X.A) (s := s) (e := fun _ => true) p1.isList p2.isList rfl (by omega) (fun j h1 h2 => absurd h2 (by simp))
      exact R X.prog X.w X.xe (EP X pins σ Q) ⟨.bl _, H, I, by simp [L2.RelV], q⟩
    | cons _ _ =>
      have R := SeqAt.RcNeAt.lists_lengths (A := X.A) (s := s) p1.isList p2.isList (by simp) (by omega)
      exact R X.prog X.w X.xe (EP X pins σ Q) ⟨.bl _, H, I, by simp [L2.RelV], q⟩
end
def eqE (g : Bool → Bool) (a b : D) : Option D := match a, b with
  | .tup xs, .tup [] => some (.bl (g xs.isEmpty))
  | .lst xs, .lst [] => some (.bl (g xs.isEmpty))
  | _, _ => none
section
variable {K : Fg}
theorem rop_eqE {g : Bool → Bool} : ROp K (rEqE K g) (eqE g) := fun F H x y a b d Q hF ra rb e q => by
  unfold eqE at e
  split at e
  · cases e
    obtain ⟨p, xs, rfl, h1, r1, _⟩ := ra.tup
    obtain ⟨p', ys, rfl, h2, r2, _⟩ := rb.tup
    cases r2
    exact ⟨p, p', xs, rfl, rfl, .inl ⟨h1, h2⟩, by rw [r1.isEmpty]; exact q _ H (Ex.refl _) (.bl _)⟩
  · cases e
    obtain ⟨p, xs, rfl, h1, r1⟩ := ra.lst
    obtain ⟨p', ys, rfl, h2, r2⟩ := rb.lst
    cases r2
    exact ⟨p, p', xs, rfl, rfl, .inr ⟨.inl (.inl h1), .inl (.inl h2)⟩, by rw [r1.isEmpty]; exact q _ H (Ex.refl _) (.bl _)⟩
  · cases e
@[simp] theorem wo_eqET {g : Bool → Bool} {ds : List D} {R : D → Prop} : Wo (eqE g (.tup ds) (.tup [])) R ↔ R (.bl (g ds.isEmpty)) := by with_unfolding_all exact Iff.rfl
@[simp] theorem wo_eqEL {g : Bool → Bool} {ds : List D} {R : D → Prop} : Wo (eqE g (.lst ds) (.lst [])) R ↔ R (.bl (g ds.isEmpty)) := by with_unfolding_all exact Iff.rfl
end
end Mir
/-! max of a list of whole numbers. -/
namespace Mir
open PySem L2
def maxL : List Int → Int
  | [] => 0
  | [x] => x
  | x :: y :: r => max x (maxL (y :: r))
theorem maxL_ge : ∀ {ns : List Int}, ∀ y ∈ ns, y ≤ maxL ns
  | [], y, h => by cases h
  | [x], y, h => by simp at h; subst h; exact Int.le_refl _
  | x :: z :: r, y, h => by
    rcases List.mem_cons.mp h with rfl | h
    · exact Int.le_max_left ..
    · exact Int.le_trans (maxL_ge (ns := z :: r) y h) (Int.le_max_right ..)
theorem maxL_mem : ∀ {ns : List Int}, ns ≠ [] → maxL ns ∈ ns
  | [], h => absurd rfl h
  | [x], _ => by simp [maxL]
  | x :: z :: r, _ => by
    have ih := maxL_mem (ns := z :: r) (by simp)
    show max x (maxL (z :: r)) ∈ x :: z :: r
    rcases Int.le_total x (maxL (z :: r)) with h | h
    · rw [Int.max_eq_right h]; exact List.mem_cons_of_mem _ ih
    · rw [Int.max_eq_left h]; exact List.mem_cons_self ..
def maxF (as : List D) : Option D := match as with
  | [.lst ds] => match intsOf ds with
    | some (n :: ns) => some (.int (maxL (n :: ns)))
    | _ => none
  | _ => none
theorem rcl_maxL {K : Fg} : RCl K (rMax K) maxF := fun F H xs as d Q hF ra e q => by
  unfold maxF at e
  split at e
  · rename_i ds
    split at e
    · rename_i n ns hi
      cases e
      obtain ⟨x, rfl, hx⟩ := ra.one
      obtain ⟨p, ys, rfl, h1, r1⟩ := hx.lst
      have hxs := ints_ok r1 hi
      refine ⟨p, n :: ns, rfl, .inl (.inl (by rw [← hxs]; exact h1)), by simp, fun m hm hle => ?_⟩
      have e1 : m = maxL (n :: ns) := Int.le_antisymm (maxL_ge m hm) (hle _ (maxL_mem (by simp)))
      subst e1
      exact q _ H (Ex.refl _) (.int _)
    · cases e
  · cases e
theorem wo_maxL {R : D → Prop} {ns : List Int} (h : ns ≠ []) : Wo (maxF [.lst (ns.map D.int)]) R ↔ R (.int (maxL ns)) := by
  have : maxF [.lst (ns.map D.int)] = some (.int (maxL ns)) := by
    unfold maxF
    dsimp only
    rw [intsOf_map]
    cases ns with
    | nil => exact absurd rfl h
    | cons n ns => rfl
  rw [this, Wo_some]
end Mir
/-! in and not in: a tuple or list of data (tuples of tuples of texts, whole numbers). -/
namespace Mir
open PySem PySem.Spec PyProof.Rows L2
def rInN (K : Fg) (neg : Bool) : R2 := fun x y H Q => ∃ (p : Addr) (xs : List V) (d : PyData) (ds : List PyData), y = .ref p ∧ (SqL K H p xs ∨ SqT K H p xs) ∧ Dp K H x d ∧ DpAll K H xs ds ∧ d.canLay0 = true ∧ PyData.canLayAll0 ds = true ∧ d.depth ≤ 60 ∧ Q (.bl (if neg then !(ds.any fun e => PyData.eqv e d) else ds.any fun e => PyData.eqv e d)) H
section
variable {X : Cx}
theorem op_inN (hu : X.A.units + 64 < cLine) : OpR X (compareOp .In) (rInN X.K false) := by
  intro pins s σ H x y v u Q I rx ry h
  obtain ⟨p, xs, d, ds, rfl, hq, hd, hds, c1, c2, hdp, q⟩ := h
  obtain ⟨bs, r2⟩ := Dp.reads I d x v hd rx
  have hm : X.A.units + 1 + min (PyData.depthAll ds) d.depth < cLine := by
    have : min (PyData.depthAll ds) d.depth ≤ d.depth := Nat.min_le_right _ _
    omega
  rcases hq with hq | hq
  · obtain ⟨as, r1⟩ := Dp.reads I (.list ds) (.ref p) u (.lst hq hds) ry
    exact SeqAt.in_list_reads r1 r2 c2 c1 hm ⟨.bl _, H, I, rfl, q⟩
  · obtain ⟨as, r1⟩ := Dp.reads I (.tuple ds) (.ref p) u (.tup hq hds) ry
    exact SeqAt.in_tuple_reads r1 r2 c2 c1 hm ⟨.bl _, H, I, rfl, q⟩
theorem op_notInN (hu : X.A.units + 64 < cLine) : OpR X (compareOp .NotIn) (rInN X.K true) := by
  intro pins s σ H x y v u Q I rx ry h
  obtain ⟨p, xs, d, ds, rfl, hq, hd, hds, c1, c2, hdp, q⟩ := h
  obtain ⟨bs, r2⟩ := Dp.reads I d x v hd rx
  have hm : X.A.units + 1 + min (PyData.depthAll ds) d.depth < cLine := by
    have : min (PyData.depthAll ds) d.depth ≤ d.depth := Nat.min_le_right _ _
    omega
  rcases hq with hq | hq
  · obtain ⟨as, r1⟩ := Dp.reads I (.list ds) (.ref p) u (.lst hq hds) ry
    exact SeqAt.notIn_list_reads r1 r2 c2 c1 hm ⟨.bl _, H, I, rfl, q⟩
  · obtain ⟨as, r1⟩ := Dp.reads I (.tuple ds) (.ref p) u (.tup hq hds) ry
    exact SeqAt.notIn_tuple_reads r1 r2 c2 c1 hm ⟨.bl _, H, I, rfl, q⟩
end
def inN (neg : Bool) (a b : D) : Option D := match itemsOf b with
  | some ds => if a.py.canLay0 = true ∧ PyData.canLayAll0 (D.pys ds) = true ∧ a.py.depth ≤ 60 then some (.bl (if neg then !((D.pys ds).any fun e => PyData.eqv e a.py) else (D.pys ds).any fun e => PyData.eqv e a.py)) else none
  | none => none
section
variable {K : Fg}
theorem rop_inN {neg : Bool} : ROp K (rInN K neg) (inN neg) := fun F H x y a b d Q hF ra rb e q => by
  unfold inN at e
  split at e
  · rename_i ds hd
    split at e
    · rename_i hc
      cases e
      obtain ⟨p, xs, rfl, hs, rx⟩ := rb.items hd
      have rx' := rx.mono off_ex
      exact ⟨p, xs, a.py, D.pys ds, rfl, hs, ra.full.dp hc.1, Reps.dps rx' hc.2.1, hc.1, hc.2.1, hc.2.2, q _ H (Ex.refl _) (.bl _)⟩
    · cases e
  · cases e
end
/-! data that `in` may compare -/
theorem lay_tup {ds : List D} : (D.tup ds).py.canLay0 = PyData.canLayAll0 (D.pys ds) := by simp [D.py, PyData.canLay0]
theorem lay_nil : PyData.canLayAll0 (D.pys []) = true := by simp [D.pys, PyData.canLayAll0]
theorem lay_cons {d : D} {ds : List D} : PyData.canLayAll0 (D.pys (d :: ds)) = (d.py.canLay0 && PyData.canLayAll0 (D.pys ds)) := by simp [D.pys, PyData.canLayAll0]
theorem lay_str {s : Str} : (D.str s).py.canLay0 = PyData.strOk s := by simp [D.py, PyData.canLay0]
theorem lay_all {ds : List D} (h : ∀ d ∈ ds, d.py.canLay0 = true) : PyData.canLayAll0 (D.pys ds) = true := by
  induction ds with
  | nil => exact lay_nil
  | cons d ds ih => rw [lay_cons, h d (by simp), ih fun e he => h e (by simp [he])]; rfl
theorem dep_tup {ds : List D} : (D.tup ds).py.depth = PyData.depthAll (D.pys ds) + 1 := by simp [D.py, PyData.depth]
theorem dep_nil : PyData.depthAll (D.pys []) = 0 := by simp [D.pys, PyData.depthAll]
theorem dep_cons {d : D} {ds : List D} : PyData.depthAll (D.pys (d :: ds)) = max d.py.depth (PyData.depthAll (D.pys ds)) := by simp [D.pys, PyData.depthAll]
theorem dep_str {s : Str} : (D.str s).py.depth = 0 := by simp [D.py, PyData.depth]
theorem wo_inN {neg : Bool} {a : D} {ds : List D} {R : D → Prop} (h1 : a.py.canLay0 = true) (h2 : ∀ d ∈ ds, d.py.canLay0 = true) (h3 : a.py.depth ≤ 60) (q : ∀ b : Bool, R (.bl b)) : Wo (inN neg a (.lst ds)) R := by
  have : ∃ b, inN neg a (.lst ds) = some (.bl b) := by
    unfold inN
    dsimp only [itemsOf]
    rw [if_pos ⟨h1, lay_all h2, h3⟩]
    exact ⟨_, rfl⟩
  obtain ⟨b, e⟩ := this
  rw [e, Wo_some]
  exact q b
end Mir
/-! An expression that only reads, with a scalar as its value: one's own objects stay one's own. -/
namespace Mir
open PySem L2
def Sl.frz1 : Sl → Sl
  | .own _ d => .val d
  | s => s
def frzAll (env : Env) : Env := env.map Sl.frz1
def mKeep (m : ME) : ME := fun env => match m (frzAll env) with
  | some (d, _) => if d.sc = true then some (d, env) else none
  | none => none
section
variable {K : Fg}
def cfg0 : Cfg := ⟨[], fun _ => none, [], fun _ => none⟩
theorem Rel.frzAll {C : Cfg} {F : List Addr} {σ : L2.St} {H : Hp} {env : Env} (r : Rel K C F σ H env) : Rel K cfg0 [] σ H (frzAll env) where
  len := by unfold Mir.frzAll; rw [List.length_map]; exact r.len
  vals := fun i d h => by
    unfold Mir.frzAll at h
    rw [List.getElem?_map] at h
    obtain ⟨s, hs, e⟩ := Option.map_eq_some_iff.mp h
    cases s with
    | un => cases e
    | val d' =>
      cases e
      obtain ⟨v, a, b⟩ := r.vals i d hs
      exact ⟨v, a, by rw [off_nil]; exact b.mono off_ex⟩
    | own b d' =>
      cases e
      obtain ⟨p, a, m, o, c⟩ := r.owns i b d hs
      exact ⟨.ref p, a, OwnAt.rep (F' := []) (by simp) (by simp) o⟩
  owns := fun i b d h => by
    unfold Mir.frzAll at h
    rw [List.getElem?_map] at h
    obtain ⟨s, hs, e⟩ := Option.map_eq_some_iff.mp h
    cases s <;> cases e
  apart := fun i j b c d e p _ h _ _ _ => by
    unfold Mir.frzAll at h
    rw [List.getElem?_map] at h
    obtain ⟨s, hs, e⟩ := Option.map_eq_some_iff.mp h
    cases s <;> cases e
  pars := fun i p h => by cases h
  sub := fun p h => by cases h
  old := fun a o _ h => by cases h
  live := fun p h => by cases h
  base := fun p h => by cases h
  pmF := fun i p h => by cases h
  pins := fun a o h => by cases h
theorem Rep.scal {F : List Addr} {H : Hp} {v : V} {d : D} (r : Rep K H v d) (h : d.sc = true) {H' : Hp} : Rep K H' v d := by
  cases r <;> first | (cases h; done) | constructor
theorem sim_keep {te : TE} {m : ME} (h : SimE K te m) : SimE K te (mKeep m) := fun C F σ H env d env' Q r e q => by
  unfold mKeep at e
  split at e
  · rename_i d1 env1 hm
    split at e
    · rename_i hc
      cases e
      refine h cfg0 [] σ H (frzAll env) d env1 Q r.frzAll hm fun v H' _ ex rp => ?_
      rw [off_nil, off_nil] at ex
      exact q v H' (r.grow ex) (off_mono ex) (rp.scal (F := []) hc)
    · cases e
  · cases e
end
@[simp] theorem frzAll_nil : frzAll [] = [] := rfl
@[simp] theorem frzAll_un {e : Env} : frzAll (.un :: e) = .un :: frzAll e := rfl
@[simp] theorem frzAll_val {d : D} {e : Env} : frzAll (.val d :: e) = .val d :: frzAll e := rfl
@[simp] theorem frzAll_own {b : Bool} {d : D} {e : Env} : frzAll (.own b d :: e) = .val d :: frzAll e := rfl
theorem frzAll_pl {a : Sl} {e : Env} (h : Pl a) : frzAll (a :: e) = a :: frzAll e := by
  rcases h with rfl | ⟨d, rfl⟩ <;> rfl
@[simp] theorem w_keep {m : ME} {env : Env} {Q : D → Env → Prop} : W (mKeep m env) Q ↔ W (m (frzAll env)) fun d _ => d.sc = true ∧ Q d env := by
  unfold mKeep
  rw [with_W, with_W]
  constructor
  · rintro ⟨x, y, h, q⟩
    split at h
    · rename_i hm
      split at h
      · rename_i hc
        cases h
        exact ⟨_, _, hm, hc, q⟩
      · cases h
    · cases h
  · rintro ⟨x, y, h, hc, q⟩
    rw [h]
    exact ⟨x, env, by simp [hc], q⟩
end Mir
/-! Dicts whose keys are tuples: made by a comprehension, read, written; defs with a keyword-only parameter. -/
namespace Mir
open PySem PySem.Spec PyProof.Rows L2
def keysD : List D → Option (List Key)
  | [] => some []
  | d :: ds => match keyD d with
    | some k => match keysD ds with
      | some ks => some (k :: ks)
      | none => none
    | none => none
def keyTD : D → Option (List Key)
  | .tup ds => keysD ds
  | _ => none
def lookT (ks : List (List Key)) (vs : List D) (k : List Key) : Option D := ((ks.zip vs).find? fun p => decide (p.1 = k)).map (·.2)
def putTK (ks : List (List Key)) (k : List Key) : List (List Key) := if (ks.any fun x => decide (x = k)) = true then ks else ks ++ [k]
def putTV (ks : List (List Key)) (vs : List D) (k : List Key) (v : D) : List D :=
  if (ks.any fun x => decide (x = k)) = true then List.zipWith (fun x w => if x = k then v else w) ks vs else vs ++ [v]
theorem putTK_len {ks : List (List Key)} {k : List Key} : (putTK ks k).length ≤ ks.length + 1 := by
  unfold putTK; split <;> simp
section
variable {K : Fg} {H : Hp}
theorem keysD_rep : ∀ {vs : List V} {ds : List D} {ks : List Key}, Reps K H vs ds → keysD ds = some ks → vs = ks.map kV
  | _, _, _, .nil, e => by cases e; rfl
  | _, _, _, .cons h r, e => by
    unfold keysD at e
    split at e
    · rename_i k hk
      split at e
      · rename_i ks hks
        cases e
        rw [keyD_rep h hk, keysD_rep r hks]; rfl
      · cases e
    · cases e
theorem keyTD_rep {v : V} {d : D} {k : List Key} (r : Rep K H v d) (e : keyTD d = some k) : ∃ b, v = .ref b ∧ TupAt H b (k.map kV) := by
  cases r with
  | tup h r => exact ⟨_, rfl, by rw [← keysD_rep r e]; exact h⟩
  | _ => cases e
theorem lkT_rep {k : List Key} : ∀ {L : TLi} {ks : List (List Key)} {ds : List D}, L.map (·.1) = ks → Reps K H (L.map (·.2.2)) ds → match lookT ks ds k with
    | some d => ∃ v, lkL L k = some v ∧ Rep K H v d
    | none => lkL L k = none
  | [], ks, ds, hl, r => by
    cases hl; cases ds <;> simp [lookT, lkL]
  | p :: L, ks, ds, hl, r => by
    cases r with
    | cons h t =>
      rename_i d ds
      cases hl
      by_cases e : p.1 = k
      · have a : lookT ((p :: L).map (·.1)) (d :: ds) k = some d := by simp [lookT, e]
        rw [a]
        exact ⟨p.2.2, by simp [lkL, e], h⟩
      · have a : lookT ((p :: L).map (·.1)) (d :: ds) k = lookT (L.map (·.1)) ds k := by simp [lookT, e]
        have b : lkL (p :: L) k = lkL L k := by simp [lkL, e]
        rw [a, b]
        exact lkT_rep rfl t
theorem lkL_any {k : List Key} : ∀ {L : TLi}, (lkL L k).isSome = (L.map (·.1)).any fun x => decide (x = k)
  | [] => rfl
  | p :: L => by
    by_cases e : p.1 = k
    · simp [lkL, e]
    · have b : lkL (p :: L) k = lkL L k := by simp [lkL, e]
      rw [b, lkL_any]; simp [e]
theorem upL_key {k : List Key} {v : V} {p : List Key × Addr × V} : (upL k v p).1 = p.1 := by unfold upL; split <;> rfl
theorem upL_addr {k : List Key} {v : V} {p : List Key × Addr × V} : (upL k v p).2.1 = p.2.1 := by unfold upL; split <;> rfl
theorem putL_keys {L : TLi} {k : List Key} {b : Addr} {v : V} : (putL L k b v).map (·.1) = putTK (L.map (·.1)) k := by
  unfold putL putTK
  rw [lkL_any]
  split
  · rw [List.map_map]; exact List.map_congr_left fun p _ => upL_key
  · rw [List.map_append]; rfl
theorem putL_keysAt {L : TLi} {k : List Key} {b : Addr} {v : V} (h : KeysAt H L) (hb : TupAt H b (k.map kV)) : KeysAt H (putL L k b v) := by
  unfold putL
  split
  · intro p hp
    obtain ⟨q, hq, rfl⟩ := List.mem_map.mp hp
    rw [upL_key, upL_addr]; exact h q hq
  · intro p hp
    rcases List.mem_append.mp hp with hp | hp
    · exact h p hp
    · cases List.mem_singleton.mp hp; exact hb
theorem putL_vals {L : TLi} {k : List Key} {b : Addr} {v : V} {d : D} {ds : List D} (h : Reps K H (L.map (·.2.2)) ds) (r : Rep K H v d) : Reps K H ((putL L k b v).map (·.2.2)) (putTV (L.map (·.1)) ds k d) := by
  unfold putL putTV
  rw [lkL_any]
  split
  · rename_i q
    clear q
    induction L generalizing ds with
    | nil => cases h; exact .nil
    | cons p L ih =>
      cases h with
      | cons h t =>
        rw [List.map_cons, List.map_cons, List.map_cons, List.zipWith_cons_cons]
        refine .cons ?_ (ih t)
        unfold upL
        by_cases e : p.1 = k
        · rw [if_pos e, if_pos e]; exact r
        · rw [if_neg e, if_neg e]; exact h
  · rw [List.map_append]; exact h.append (.cons r .nil)
end
/-! ### read -/
def rIx3 (hs : HS) (K : Fg) : R2 := fun x y H Q => rIxA K x y H Q ∨ rIxT hs x y H Q
theorem ix_all3 {X : Cx} (hu : X.A.units + 1 < cLine) : IxR X (rIx3 (hsP X.prog X.w) X.K) := (ix_all hu).or (ix_tdict hu)
/-- the hash by which the dicts of tuples stand -/
class Hs where
  hs : HS
  dec : ∀ f : HS, Decidable (f = hs)
@[reducible] instance hsDec [h : Hs] (f : HS) : Decidable (f = Hs.hs) := h.dec f
@[reducible] noncomputable def hsI (P : Program) (w : World) : Hs := ⟨hsP P w, fun _ => Classical.propDecidable _⟩
def ix3D [Hs] (a b : D) : Option D := match a with
  | .dt hs ks vs => if hs = Hs.hs then match keyTD b with
      | some k => lookT ks vs k
      | none => none
    else none
  | _ => ixDA a b
def set3D [Hs] (d i a : D) : Option D := match d with
  | .dt hs ks vs => if hs = Hs.hs then match keyTD i with
      | some k => if ks.length < 100000 then some (.dt hs (putTK ks k) (putTV ks vs k a)) else none
      | none => none
    else none
  | _ => none
section
variable {K : Fg} {P : Program} {w : World}
theorem own_dt {F : List Addr} {H : Hp} {p : Addr} {hs : HS} {ks : List (List Key)} {ds : List D} (h : OwnAt K F H p (.dt hs ks ds)) : ∃ L : TLi, L.map (·.1) = ks ∧ H p = some (dictO hs p L) ∧ KeysAt (off F H) L ∧ Reps K (off F H) (L.map (·.2.2)) ds := h
theorem rop_ix3 : ROp K (rIx3 (hsP P w) K) (@ix3D (hsI P w)) := fun F H x y a b d Q hF ra rb e q => by
  unfold ix3D at e
  split at e
  · rename_i hs ks vs
    split at e
    · rename_i hh
      split at e
      · rename_i k hk
        have hh' : hs = hsP P w := hh
        subst hh'
        obtain ⟨b', rfl, hb⟩ := keyTD_rep rb.full hk
        have ra' : ∃ (p : Addr) (L : TLi), x = .ref p ∧ L.map (·.1) = ks ∧ H p = some (dictO (hsP P w) p L) ∧ KeysAt H L ∧ Reps K (off F H) (L.map (·.2.2)) vs := ra.dt
        obtain ⟨p, L, rfl, hl, ho, hk2, rs⟩ := ra'
        have := lkT_rep (k := k) hl rs
        rw [e] at this
        obtain ⟨v, hv, rv⟩ := this
        exact .inr ⟨p, b', L, k, v, rfl, rfl, ho, hk2, hb, hv, q v H (Ex.refl _) rv⟩
      · cases e
    · cases e
  · exact .inl (rop_ixA F H x y a b d Q hF ra rb e q)
/-! ### written -/
def mPut3 [Hs] (i : Nat) (mi mv : ME) : MS := fun env => match mv env with
  | some (dv, env1) => match env1[i]? with
    | some (.own _ _) => match mi env1 with
      | some (di, env2) => match env2[i]? with
        | some (.own b d0) => match set3D d0 di dv with
          | some d1 => some (.nx, env2.set i (.own b d1))
          | none => none
        | _ => none
      | none => none
    | _ => none
  | none => none
theorem simS_put3 {i : Nat} {ti tv : TE} {mi mv : ME} (hi : SimE K ti mi) (hv : SimE K tv mv) : SimS K (tAsg tv (gSub (tVar i) ti (rSetT (hsP P w)))) (@mPut3 (hsI P w) i mi mv) := fun C F σ H env fl env' D r e q => by
  unfold mPut3 at e
  split at e
  · rename_i dv env1 h1
    split at e
    · rename_i b0 d00 hs0
      split at e
      · rename_i di env2 h2
        split at e
        · rename_i b d0 hs
          split at e
          · rename_i d1 h3
            cases e
            refine hv C F σ H env dv env1 _ r h1 fun v1 H1 r1 e1 p1 => ?_
            obtain ⟨p0, hp0, _⟩ := r1.owns i b0 d00 hs0
            refine ⟨_, hp0, ?_⟩
            refine hi C F σ H1 env1 di env2 _ r1 h2 fun v2 H2 r2 e2 p2 => ?_
            obtain ⟨p, s1, pF, oa, _, _⟩ := r2.owns i b d0 hs
            have ep : p0 = p := by rw [hp0] at s1; cases s1; rfl
            subst ep
            unfold set3D at h3
            split at h3
            · rename_i hs' ks vs
              split at h3
              · rename_i hh
                split at h3
                · rename_i k hk
                  split at h3
                  · rename_i hlen
                    cases h3
                    have hh' : hs' = hsP P w := hh
                    subst hh'
                    obtain ⟨L, hl, ho, hk2, ry⟩ := own_dt oa
                    obtain ⟨b', hb', hb⟩ := keyTD_rep p2 hk
                    subst hb'
                    have hL : L.length = ks.length := by rw [← hl, List.length_map]
                    refine ⟨p0, b', L, k, rfl, rfl, ho, hk2.ex off_ex, ?_, hb.ex off_ex, ?_⟩
                    · rw [hL]; exact Nat.lt_of_lt_of_le hlen (by decide)
                    · have eo : off F (upd H2 p0 (dictO (hsP P w) p0 (putL L k b' v1))) = off F H2 := off_upd pF
                      refine q F σ _ (r2.mut hs hp0 ⟨putL L k b' v1, ?_, upd_same, ?_, ?_⟩) (by rw [eo]; exact e1.trans e2)
                      · rw [putL_keys, hl]
                      · rw [eo]; exact putL_keysAt hk2 hb
                      · rw [eo, ← hl]; exact putL_vals ry (p1.mono e2)
                  · cases h3
                · cases h3
              · cases h3
            · cases h3
          · cases e
        · cases e
      · cases e
    · cases e
  · cases e
end
theorem u0 {A : Around} (h : A.units + 64 < cLine) : A.units < cLine := by omega
/-! ### made by a comprehension -/
def mDcL (g : MG) (mk mv : ME) (vs : List Nat) : List D → List (List Key) → List D → Env → Option ((List (List Key) × List D) × Env)
  | [], ks, ds, env => some ((ks, ds), env)
  | d :: rest, ks, ds, env => match g d env with
    | some env1 => match mk env1 with
      | some (dk, env2) => match keyTD dk with
        | some k => match mv env2 with
          | some (y, env3) => mDcL g mk mv vs rest (putTK ks k) (putTV ks ds k y) (wipeE env3 vs)
          | none => none
        | none => none
      | none => none
    | none => none
def mDc [Hs] (mi : Env → Option (List D × Env)) (g : MG) (mk mv : ME) (vs : List Nat) : ME := fun env => match mi env with
  | some (ds, env1) => if plainAt env1 vs = true ∧ ds.length ≤ 100000 then
      match mDcL g mk mv vs ds [] [] (wipeE env1 vs) with
      | some ((ks, ys), env2) => some (.dt Hs.hs ks ys, backE env1 env2 vs)
      | none => none
    else none
  | none => none
section
variable {K : Fg} {P : Program} {w : World} {tk tv : TE} {mk mv : ME}
theorem simN_dc {wi : TI} {mi : Env → Option (List D × Env)} {bs vs : List Nat} {g : TG} {mg : MG} (hi : SimI K wi mi) (hg : SimG K bs g mg) (hbs : ∀ i ∈ bs, i ∈ vs) (hk : SimE K tk mk) (he : SimE K tv mv) : SimN K (tDcT (hsP P w) wi g tYes tk tv vs) (@mDc (hsI P w) mi mg mk mv vs) := fun C F σ H env d env' Q r e q => by
  unfold mDc at e
  split at e
  · rename_i ds env1 h1
    split at e
    · rename_i hc
      obtain ⟨hpl, hlen⟩ := hc
      split at e
      · rename_i ksr res env2 h2
        cases e
        refine hi C F σ H env ds env1 _ r h1 fun J G Y H1 wk stab yl r1 e1 => ?_
        intro D hD
        have hD0 : H D = none := by
          cases h0 : H D with
          | none => rfl
          | some o =>
            by_cases pF : D ∈ F
            · obtain ⟨u, hu⟩ := r1.live D pF
              rw [hD] at hu; cases hu
            · have := e1 D o (off_some.mpr ⟨pF, h0⟩)
              rw [off_some, hD] at this
              exact absurd this.2 (by simp)
        have nop := r1.nopar hpl
        have rD : Rel K C (D :: F) (L2.wipe σ vs) (upd H1 D (dictO (hsP P w) D [])) (wipeE env1 vs) := (r1.wiped nop).laid hD
        have exD : Ex (off F H1) (off (D :: F) (upd H1 D (dictO (hsP P w) D []))) := off_cons hD
        have pD : C.pin D = none := r1.nopin hD
        have zD : C.H0 D = none := r1.h0 hD
        refine ⟨fun i m H' => m = ds.length - i ∧ i ≤ ds.length ∧ ∃ (env3 : Env) (ks : List (List Key)) (ys : List Mir.D) (L : TLi), Rel K C (D :: F) (L2.wipe σ vs) H' env3 ∧ (∀ (j : Nat) b e, env3[j]? = some (.own b e) → (L2.wipe σ vs)[j]? ≠ some (some (.ref D))) ∧ Ex (off F H1) (off (D :: F) H') ∧ H' D = some (dictO (hsP P w) D L) ∧ L.map (·.1) = ks ∧ KeysAt (off (D :: F) H') L ∧ Reps K (off (D :: F) H') (L.map (·.2.2)) ys ∧ L.length ≤ i ∧ mDcL mg mk mv vs (ds.drop i) ks ys env3 = some ((ksr, res), env2),
          ⟨ds.length, by simp, Nat.zero_le _, wipeE env1 vs, [], [], [], rD, fun j b e hj => (r1.wiped nop).noslot hD hj, exD, upd_same, rfl, (fun p hp => by cases hp), .nil, Nat.le_refl _, h2⟩, ?_⟩
        rintro i m H2 ⟨rfl, hile, env3, ks, ys, L, r3, s3, ex3, hav, hlk, hka, rav, hle, e3⟩
        have hGi : G H2 := stab (D :: F) H2 ex3
        by_cases hlt : i < ds.length
        · refine .inr ⟨wk.goes i H2 hlt hGi, fun H' => i + 1 ≤ ds.length ∧ ∃ (env3 : Env) (ks : List (List Key)) (ys : List Mir.D) (L : TLi), Rel K C (D :: F) (L2.wipe σ vs) H' env3 ∧ (∀ (j : Nat) b e, env3[j]? = some (.own b e) → (L2.wipe σ vs)[j]? ≠ some (some (.ref D))) ∧ Ex (off F H1) (off (D :: F) H') ∧ H' D = some (dictO (hsP P w) D L) ∧ L.map (·.1) = ks ∧ KeysAt (off (D :: F) H') L ∧ Reps K (off (D :: F) H') (L.map (·.2.2)) ys ∧ L.length ≤ i + 1 ∧ mDcL mg mk mv vs (ds.drop (i + 1)) ks ys env3 = some ((ksr, res), env2), fun H' p' => ⟨ds.length - (i + 1), by omega, rfl, p'⟩, fun x H3 y0 => ?_⟩
          have y := wk.yields i H2 x H3 hlt hGi y0
          have hd : ds[i]? = some ds[i] := List.getElem?_eq_getElem hlt
          rw [List.drop_eq_getElem_cons hlt] at e3
          unfold mDcL at e3
          obtain ⟨ex4, p4⟩ := yl i H2 x H3 (D :: F) ds[i] hd r3.live ex3 y
          have r4 : Rel K { C with pin := upd C.pin D (dictO (hsP P w) D L) } (D :: F) (L2.wipe σ vs) H3 env3 := (r3.grow ex4).pinned (ex4 D _ hav) (List.mem_cons_self ..) s3
          have ex34 : Ex (off F H1) (off (D :: F) H3) := ex3.trans (off_mono ex4)
          split at e3
          · rename_i env5 h5
            refine hg _ (D :: F) (L2.wipe σ vs) H3 env3 x ds[i] env5 _ r4 p4 h5 fun σ6 r6 l6 k6 => ?_
            have hw : L2.wipe σ6 vs = L2.wipe σ vs := wipe_same (by rw [l6, L2.wipe_length]) fun j hj => k6 j fun z => hj (hbs j z)
            refine ⟨hw, ?_⟩
            have again : ∀ (H8 : Hp) (env8 : Env) (o : HO), Rel K { C with pin := upd C.pin D (dictO (hsP P w) D L) } (D :: F) σ6 H8 env8 → Rel K C (D :: F) (L2.wipe σ vs) (upd H8 D o) (wipeE env8 vs) ∧ (∀ (j : Nat) b e, (wipeE env8 vs)[j]? = some (.own b e) → (L2.wipe σ vs)[j]? ≠ some (some (.ref D))) ∧ H8 D = some (dictO (hsP P w) D L) := fun H8 env8 o r8 => by
              obtain ⟨x8, y8, z8⟩ := r8.pins D (dictO (hsP P w) D L) (show upd C.pin D (dictO (hsP P w) D L) D = some (dictO (hsP P w) D L) from upd_same)
              have r9 : Rel K C (D :: F) (L2.wipe σ vs) H8 (wipeE env8 vs) := by
                rw [← hw]; exact (r8.unpinned pD).wiped nop
              have s9 : ∀ (j : Nat) b e, (wipeE env8 vs)[j]? = some (.own b e) → (L2.wipe σ vs)[j]? ≠ some (some (.ref D)) := fun j b e hj => by
                by_cases hjv : j ∈ vs
                · have hlt8 : j < env8.length := by
                    have := (List.getElem?_eq_some_iff.mp hj).1
                    rw [wipeE_length] at this; exact this
                  rw [wipeE_in hjv hlt8] at hj; cases hj
                · rw [wipeE_out hjv] at hj
                  rw [← hw, wipe_out' hjv]
                  exact z8 j b e hj
              exact ⟨r9.updF (List.mem_cons_self ..) zD pD s9, s9, x8⟩
            refine (simT_yes (K := K)) _ (D :: F) σ6 H3 env5 true env5 _ r6 rfl fun H6 r6' ex6 => ?_
            rw [if_pos rfl]
            split at e3
            · rename_i dk env6 h6
              split at e3
              · rename_i k hk3
                refine hk _ (D :: F) σ6 H6 env5 dk env6 _ r6' h6 fun kv H7 r7 e7 p7 => ?_
                split at e3
                · rename_i yv env7 h7
                  refine he _ (D :: F) σ6 H7 env6 yv env7 _ r7 h7 fun v H8 r8 e8 p8 => ?_
                  obtain ⟨b', rfl, hb⟩ := keyTD_rep (p7.mono e8) hk3
                  obtain ⟨ra, rc, rd⟩ := again H8 env7 (dictO (hsP P w) D (putL L k b' v)) r8
                  have exF : Ex (off (D :: F) H3) (off (D :: F) H8) := ex6.trans (e7.trans e8)
                  have ex23 : Ex (off (D :: F) H2) (off (D :: F) H8) := (off_mono ex4).trans exF
                  have eo : off (D :: F) (upd H8 D (dictO (hsP P w) D (putL L k b' v))) = off (D :: F) H8 := off_upd (List.mem_cons_self ..)
                  refine ⟨b', k, L, rfl, rd, (hka.ex ex23).ex off_ex, Nat.lt_of_le_of_lt (show L.length ≤ 100000 by omega) (by decide), hb.ex off_ex, hlt, wipeE env7 vs, putTK ks k, putTV ks ys k yv, putL L k b' v, ra, rc, ?_, upd_same, ?_, ?_, ?_, ?_, e3⟩
                  · rw [eo]; exact ex34.trans exF
                  · rw [putL_keys, hlk]
                  · rw [eo]; exact putL_keysAt (hka.ex ex23) hb
                  · rw [eo, ← hlk]; exact putL_vals (rav.mono ex23) p8
                  · exact Nat.le_trans putL_len (by omega)
                · cases e3
              · cases e3
            · cases e3
          · cases e3
        · have hi' : i = ds.length := by omega
          subst hi'
          refine .inl ⟨wk.stops H2 hGi, ?_⟩
          rw [List.drop_length] at e3
          unfold mDcL at e3
          cases e3
          have rb := Rel.back (vs := vs) (r1.laid (o := dictO (hsP P w) D []) hD) r3 hpl (off_cons_back.trans ex3)
          refine q D H2 hD0 (fun j b e hj => ?_) rb (e1.trans ex3) ⟨L, hlk, hav, hka, rav⟩
          by_cases hjv : j ∈ vs
          · have hl2 : env2.length = env1.length := by rw [← r3.len, L2.wipe_length, r1.len]
            rw [backE_in hl2 hjv] at hj
            have := List.all_eq_true.mp hpl j hjv
            rw [hj] at this; cases this
          · rw [backE_out hjv] at hj
            rw [← wipe_out' (σ := σ) hjv]
            exact s3 j b e hj
      · cases e
    · cases e
  · cases e
end
/-! ### a keyword-only parameter -/
section
variable {K : Fg} {E : XK} {ta tk : TA} {as ks : List Arg} {n j : Nat}
theorem runArgs_app : ∀ {as ks : List Arg} {env env' : Env} {rs : List AV}, runArgs (as ++ ks) env = some (rs, env') → ∃ r1 r2 e1, runArgs as env = some (r1, e1) ∧ runArgs ks e1 = some (r2, env') ∧ rs = r1 ++ r2
  | [], ks, env, env', rs, e => ⟨[], rs, env, rfl, e, rfl⟩
  | a :: as, ks, env, env', rs, e => by
    rw [List.cons_append] at e
    unfold runArgs at e
    split at e
    · rename_i r env1 h1
      split at e
      · rename_i rs' env2 h2
        cases e
        obtain ⟨r1, r2, e1, x1, x2, x3⟩ := runArgs_app (as := as) h2
        refine ⟨r :: r1, r2, e1, ?_, x2, by rw [x3]; rfl⟩
        rw [runArgs, h1]; dsimp only; rw [x1]
      · cases e
    · cases e
theorem RepAs.app {F : List Addr} {H : Hp} {σ : L2.St} : ∀ {vs ws : List V} {rs qs : List AV}, RepAs K F H σ vs rs → RepAs K F H σ ws qs → RepAs K F H σ (vs ++ ws) (rs ++ qs)
  | _, _, _, _, .nil, s => s
  | _, _, _, _, .cons h r, s => .cons h (RepAs.app r s)
theorem RepAs.up {F : List Addr} {H H' : Hp} {σ : L2.St} (e : Ex (off F H) (off F H')) : ∀ {vs : List V} {rs : List AV}, RepAs K F H σ vs rs → RepAs K F H' σ vs rs
  | _, _, .nil => .nil
  | _, _, .cons h r => .cons (h.mono e) (RepAs.up e r)
/-- the keyword-only parameters lack: their defaults fill up -/
theorem sim_callD {m : List D → Option D} {dvs : List V} {dd : List D} (hd : ∀ H, Reps K H dvs dd) (hl : dvs.length = j) (hn : as.length = n) (ha : SimA K ta as) : SimE K (tCall (sp0 K (n + j) m) dvs E ta) (mCall0 (fun ds => m (ds ++ dd)) as) := fun C F σ H env d env' Q r e q => by
  unfold mCall0 at e
  split at e
  · rename_i rs env1 h1
    split at e
    · rename_i ds h2
      split at e
      · rename_i res h3
        cases e
        refine ha C F σ H env rs env' _ r h1 fun vs H1 r1 e1 p1 => ?_
        refine ⟨by rw [List.length_append, p1.length, runArgs_length h1, hn, hl], F, ds ++ dd, d, r1.live, (p1.reps r1 h2).append (hd _), h3, fun v H2 e2 p2 => ?_⟩
        exact q v H2 (r1.grow e2) (e1.trans (off_mono e2)) p2
      · cases e
    · cases e
  · cases e
theorem sim_callKw {m : List D → Option D} (hn : as.length = n) (hj : ks.length = j) (ha : SimA K ta as) (hk : SimA K tk ks) : SimE K (tCallN n j (sp0 K (n + j) m) (fun vs zs => vs ++ zs) E ta tk) (mCall0 m (as ++ ks)) := fun C F σ H env d env' Q r e q => by
  unfold mCall0 at e
  split at e
  · rename_i rs env1 h1
    split at e
    · rename_i ds h2
      split at e
      · rename_i res h3
        cases e
        obtain ⟨r1, r2, e1, x1, x2, x3⟩ := runArgs_app h1
        subst x3
        refine ha C F σ H env r1 e1 _ r x1 fun vs H1 rl1 ex1 p1 => ?_
        refine hk C F σ H1 e1 r2 env' _ rl1 x2 fun zs H2 rl2 ex2 p2 => ?_
        have l1 : vs.length = n := by rw [p1.length, runArgs_length x1, hn]
        have l2 : zs.length = j := by rw [p2.length, runArgs_length x2, hj]
        refine ⟨l1, l2, by rw [List.length_append, l1, l2], F, ds, d, rl2.live, ((p1.up ex2).app p2).reps rl2 h2, h3, fun v H3 e3 p3 => ?_⟩
        exact q v H3 (rl2.grow e3) ((ex1.trans ex2).trans (off_mono e3)) p3
      · cases e
    · cases e
  · cases e
end
/-- a def with keyword-only parameters stands there and keeps its promise -/
structure OkK (P : Program) (w : World) (K : Fg) (mg : Str → Option Value) (base : Heap) (x : Str) (k : Nat) (ps : List Str) (n : Nat) (ks : List Str) (dvs : List V) (sp : Sp) : Prop where
  ex : ∃ f fd ds, mg x = some (.ref f) ∧ PySem.W.keepIn K (.ref f) = true ∧ Vals dvs ds ∧ Binds K fd ps ds ∧ KBn K fd ps n ks (fun us ws => us ++ ws) (fun vs zs => vs ++ zs) ∧ FnOk P w K mg base CX0 k f fd ps sp
section
variable {K : PySem.W.Frag} {x qual : Str} {params : Arguments} {body : List Stmt} {scope : Scope} {kws : List (Str × V)} {f : Addr} {fd : FuncData} {ps : List Str}
/-- both ways of calling it -/
theorem FunD.two (F : FunD K x qual params body scope [] kws f fd) (n : Nat) (hk : kws ≠ []) (hn : n + kws.length = ps.length) (ks : List Str)
    (h : ∀ (D : Addr) (doc pm : Value) (an : Option Addr) (cdv ct : Value) (us ks : List Value), us.length = n → ks.length = kws.length →
      KwChain D ((kws.map (·.1)).zip ks) (bindArgs (PySem.W.fnOf x qual params body scope .none (.ref D) doc pm an cdv ct) ⟨us, []⟩) (ps.zip (us ++ ks)))
    (h' : ∀ (D : Addr) (doc pm : Value) (an : Option Addr) (cdv ct : Value) (us ws : List Value), us.length = n → ws.length = ks.length →
      bindArgs (PySem.W.fnOf x qual params body scope .none (.ref D) doc pm an cdv ct) ⟨us, ks.zip ws⟩ = pure (ps.zip (us ++ ws))) :
    ∃ ds, Vals (kws.map (·.2)) ds ∧ Binds K fd ps ds ∧ KBn K fd ps n ks (fun us ws => us ++ ws) (fun vs zs => vs ++ zs) := by
  obtain ⟨ds, h1, h2⟩ := L2.FunD.binds0 (ps := ps) F n hk hn h
  obtain ⟨mv, h3⟩ := L2.FunD.kbinds0 (ps := ps) F n ks [] (fun us _ ws => us ++ ws) hk (fun q hq => by cases hq) (fun r1 _ r3 => r1.append r3) (fun D doc pm an cdv ct us mv ws l1 l2 l3 => h' D doc pm an cdv ct us ws l1 l3)
  exact ⟨ds, h1, h2, h3⟩
end
end Mir
/-! list.index of data; == of data of whole numbers and texts. -/
namespace Mir
open PySem PySem.Spec PyProof.Rows L2
theorem u65 {A : Around} {k : Nat} (h : Room k A) : A.units + 65 < cLine := by have := h.un; omega
def findN (ds : List PyData) (d : PyData) : Option Nat := match ds with
  | [] => none
  | x :: xs => if PyData.eqv x d then some 0 else (findN xs d).map (· + 1)
theorem findN_facts {d : PyData} : ∀ {ds : List PyData} {j : Nat}, findN ds d = some j → (∃ z, ds[j]? = some z ∧ PyData.eqv z d = true) ∧ ∀ (m : Nat) (z' : PyData), m < j → ds[m]? = some z' → PyData.eqv z' d = false
  | [], _, e => by cases e
  | x :: xs, j, e => by
    unfold findN at e
    split at e
    · rename_i h
      cases e
      exact ⟨⟨x, rfl, h⟩, fun m z' hm => by omega⟩
    · rename_i h
      obtain ⟨j', hj, rfl⟩ := Option.map_eq_some_iff.mp e
      obtain ⟨⟨z, h1, h2⟩, h3⟩ := findN_facts hj
      refine ⟨⟨z, by simpa using h1, h2⟩, fun m z' hm hz => ?_⟩
      cases m with
      | zero => simp at hz; subst hz; simpa using h
      | succ m => exact h3 m z' (by omega) (by simpa using hz)
def idxN (a b : D) : Option D := match a with
  | .lst ds => if SeqAt.shaped (.list (D.pys ds)) = true ∧ SeqAt.shaped b.py = true then match findN (D.pys ds) b.py with
      | some j => some (.int (j : Nat))
      | none => none
    else none
  | _ => none
def mIdxN (m : ME) (b : Arg) : ME := fun env => match m env with
  | some (dx, env1) => match b.run env1 with
    | some (y, env2) => match getA env2 y with
      | some dy => match idxN dx dy with
        | some d => some (d, env2)
        | none => none
      | none => none
    | none => none
  | none => none
section
variable {K : Fg}
theorem sim_idxN {ta tb : TE} {m : ME} {b : Arg} (ha : SimE K ta m) (hb : SimX K tb b) : SimE K (tBM K "list" (rIndexD K) ta (tCons tb tNil)) (mIdxN m b) := fun C F σ H env d env' Q rl e q => by
  unfold mIdxN at e
  split at e
  · rename_i dx env1 h1
    split at e
    · rename_i y env2 h2
      split at e
      · rename_i dy hy
        split at e
        · rename_i d' hd
          cases e
          unfold idxN at hd
          split at hd
          · rename_i ds
            split at hd
            · rename_i hsh
              split at hd
              · rename_i j hj
                cases hd
                obtain ⟨⟨z, f1, f2⟩, f3⟩ := findN_facts hj
                refine ha C F σ H env (.lst ds) env1 _ rl h1 fun v1 H1 r1 e1 p1 => ?_
                have p1' := p1
                cases p1' with
                | lst ht rs =>
                  rename_i a xs
                  refine ⟨.inl ⟨rfl, _, SqL.of (off_ex _ _ ht)⟩, ?_⟩
                  refine hb C F σ H1 env1 y env' _ r1 h2 fun v2 H2 r2 e2 p2 => ?_
                  have pl : Rep K H2 (.ref a) (.lst ds) := (p1.mono e2).mono off_ex
                  have hsh1 : (D.lst ds).py.canLay0 = true := SeqAt.canLay_of_shaped hsh.1
                  refine ⟨a, v2, dy.py, D.pys ds, j, z, rfl, rfl, pl.dp hsh1, (p2.val r2 hy).full.dp (SeqAt.canLay_of_shaped hsh.2), hsh.1, hsh.2, f1, f2, f3, q _ H2 r2 (e1.trans e2) (.int _)⟩
              · cases hd
            · cases hd
          · cases hd
        · cases e
      · cases e
    · cases e
  · cases e
end
section
variable {env : Env} {Q : D → Env → Prop} {m : ME} {b : Arg}
@[simp] theorem w_idxN : W (mIdxN m b env) Q ↔ W (m env) fun dx e1 => W (b.run e1) fun y e2 => Wo (getA e2 y) fun dy => Wo (idxN dx dy) fun d => Q d e2 := by
  unfold mIdxN
  cases h : m env with
  | none => with_unfolding_all rfl
  | some x =>
    obtain ⟨dx, e1⟩ := x
    rw [W_some]
    dsimp only
    cases h2 : b.run e1 with
    | none => with_unfolding_all rfl
    | some y =>
      obtain ⟨y, e2⟩ := y
      rw [W_some]
      dsimp only
      cases h3 : getA e2 y with
      | none => simp [W, Wo]
      | some dy => cases h4 : idxN dx dy <;> simp [W, Wo, h4]
end
/-! ### data of whole numbers and texts -/
mutual
def D.gd : D → Bool
  | .non => true
  | .int _ => true
  | .str s => PyData.strOk s
  | .tup xs => D.gds xs
  | .lst xs => D.gds xs
  | _ => false
def D.gds : List D → Bool
  | [] => true
  | x :: xs => D.gd x && D.gds xs
end
mutual
theorem gd_eqv : ∀ {a b : D}, a.gd = true → b.gd = true → (PyData.eqv a.py b.py = true ↔ a = b)
  | .non, .non, _, _ => by simp [D.py, PyData.eqv]
  | .int i, .int j, _, _ => by simp [D.py, PyData.eqv]
  | .str x, .str y, _, _ => by simp [D.py, PyData.eqv]
  | .tup xs, .tup ys, h, k => by
    have := gds_eqv (a := xs) (b := ys) (by simpa [D.gd] using h) (by simpa [D.gd] using k)
    simp [D.py, PyData.eqv, this]
  | .lst xs, .lst ys, h, k => by
    have := gds_eqv (a := xs) (b := ys) (by simpa [D.gd] using h) (by simpa [D.gd] using k)
    simp [D.py, PyData.eqv, this]
  | .non, .int _, _, _ | .non, .str _, _, _ | .non, .tup _, _, _ | .non, .lst _, _, _ => by simp [D.py, PyData.eqv]
  | .int _, .non, _, _ | .int _, .str _, _, _ | .int _, .tup _, _, _ | .int _, .lst _, _, _ => by simp [D.py, PyData.eqv]
  | .str _, .non, _, _ | .str _, .int _, _, _ | .str _, .tup _, _, _ | .str _, .lst _, _, _ => by simp [D.py, PyData.eqv]
  | .tup _, .non, _, _ | .tup _, .int _, _, _ | .tup _, .str _, _, _ | .tup _, .lst _, _, _ => by simp [D.py, PyData.eqv]
  | .lst _, .non, _, _ | .lst _, .int _, _, _ | .lst _, .str _, _, _ | .lst _, .tup _, _, _ => by simp [D.py, PyData.eqv]
  | .bl _, _, h, _ | .scr _, _, h, _ | .dk _ _, _, h, _ | .dt _ _ _, _, h, _ | .ty _, _, h, _ => by simp [D.gd] at h
  | _, .bl _, _, h | _, .scr _, _, h | _, .dk _ _, _, h | _, .dt _ _ _, _, h | _, .ty _, _, h => by simp [D.gd] at h
theorem gds_eqv : ∀ {a b : List D}, D.gds a = true → D.gds b = true → (PyData.eqvAll (D.pys a) (D.pys b) = true ↔ a = b)
  | [], [], _, _ => by simp [D.pys, PyData.eqvAll]
  | [], _ :: _, _, _ => by simp [D.pys, PyData.eqvAll]
  | _ :: _, [], _, _ => by simp [D.pys, PyData.eqvAll]
  | x :: xs, y :: ys, h, k => by
    simp only [D.gds, Bool.and_eq_true] at h k
    simp [D.pys, PyData.eqvAll, gd_eqv h.1 k.1, gds_eqv h.2 k.2]
end
mutual
theorem gd_lay : ∀ {a : D}, a.gd = true → a.py.canLay0 = true
  | .non, _ => by simp [D.py, PyData.canLay0]
  | .int _, _ => by simp [D.py, PyData.canLay0]
  | .str s, h => by simpa [D.py, PyData.canLay0, D.gd] using h
  | .tup xs, h => by
    have := gds_lay (a := xs) (by simpa [D.gd] using h)
    simpa [D.py, PyData.canLay0] using this
  | .lst xs, h => by
    have := gds_lay (a := xs) (by simpa [D.gd] using h)
    simpa [D.py, PyData.canLay0] using this
  | .bl _, h | .scr _, h | .dk _ _, h | .dt _ _ _, h | .ty _, h => by simp [D.gd] at h
theorem gds_lay : ∀ {a : List D}, D.gds a = true → PyData.canLayAll0 (D.pys a) = true
  | [], _ => by simp [D.pys, PyData.canLayAll0]
  | x :: xs, h => by
    simp only [D.gds, Bool.and_eq_true] at h
    simp [D.pys, PyData.canLayAll0, gd_lay h.1, gds_lay h.2]
end
theorem gds_all {ds : List D} : D.gds ds = true ↔ ∀ d ∈ ds, d.gd = true := by
  induction ds with
  | nil => simp [D.gds]
  | cons d ds ih => simp [D.gds, ih]
/-! how deep data goes -/
mutual
def D.dp : D → Nat
  | .tup xs => D.dps xs + 1
  | .lst xs => D.dps xs + 1
  | _ => 0
def D.dps : List D → Nat
  | [] => 0
  | x :: xs => max (D.dp x) (D.dps xs)
end
mutual
theorem dp_py : ∀ {a : D}, a.gd = true → a.py.depth = a.dp
  | .non, _ => by simp [D.py, PyData.depth, D.dp]
  | .int _, _ => by simp [D.py, PyData.depth, D.dp]
  | .str s, h => by simp [D.py, PyData.depth, D.dp]
  | .tup xs, h => by simp [D.py, PyData.depth, D.dp, dps_py (a := xs) (by simpa [D.gd] using h)]
  | .lst xs, h => by simp [D.py, PyData.depth, D.dp, dps_py (a := xs) (by simpa [D.gd] using h)]
  | .bl _, h | .scr _, h | .dk _ _, h | .dt _ _ _, h | .ty _, h => by simp [D.gd] at h
theorem dps_py : ∀ {a : List D}, D.gds a = true → PyData.depthAll (D.pys a) = D.dps a
  | [], _ => by simp [D.pys, PyData.depthAll, D.dps]
  | x :: xs, h => by
    simp only [D.gds, Bool.and_eq_true] at h
    simp [D.pys, PyData.depthAll, D.dps, dp_py h.1, dps_py h.2]
end
theorem dps_le {ds : List D} {n : Nat} : D.dps ds ≤ n ↔ ∀ d ∈ ds, d.dp ≤ n := by
  induction ds with
  | nil => simp [D.dps]
  | cons d ds ih => simp [D.dps, ih, Nat.max_le]
theorem gd_shaped {a : D} (h : a.gd = true) (k : a.dp ≤ 64) : SeqAt.shaped a.py = true := by
  unfold SeqAt.shaped
  rw [gd_lay h, dp_py h]; simpa using k
/-- the first place of d in a list of data -/
theorem findN_at {ds : List D} {d : D} {j : Nat} (h : D.gds ds = true) (hd : d.gd = true) (e : ds[j]? = some d) (hn : ∀ m, m < j → ds[m]? ≠ some d) : findN (D.pys ds) d.py = some j := by
  induction ds generalizing j with
  | nil => simp at e
  | cons x xs ih =>
    have h' := h
    simp only [D.gds, Bool.and_eq_true] at h'
    unfold D.pys findN
    cases j with
    | zero =>
      simp at e; subst e
      rw [if_pos ((gd_eqv h'.1 hd).mpr rfl)]
    | succ j =>
      have ne : x ≠ d := fun z => hn 0 (by omega) (by simp [z])
      rw [if_neg (fun z => ne ((gd_eqv h'.1 hd).mp z)), ih h'.2 (by simpa using e) fun m hm => by
        have := hn (m + 1) (by omega)
        simpa using this]
      rfl
theorem wo_idxN {R : D → Prop} {ds : List D} {d : D} {j : Nat} (h : D.gds ds = true) (hd : d.gd = true) (hp : D.dps ds ≤ 60) (hdp : d.dp ≤ 60) (e : ds[j]? = some d) (hn : ∀ m, m < j → ds[m]? ≠ some d) (q : R (.int (j : Nat))) : Wo (idxN (.lst ds) d) R := by
  have s1 : SeqAt.shaped (.list (D.pys ds)) = true := gd_shaped (a := .lst ds) (by simpa [D.gd] using h) (by simp [D.dp]; omega)
  have : idxN (.lst ds) d = some (.int (j : Nat)) := by
    unfold idxN
    dsimp only
    rw [if_pos ⟨s1, gd_shaped hd (by omega)⟩, findN_at h hd e hn]
  rw [this, Wo_some]; exact q
theorem sceq_none {a b : D} (h : ∀ r, sceq a b ≠ some r) : sceq a b = none := by
  cases e : sceq a b with
  | none => rfl
  | some r => exact absurd e (h r)
theorem sceq_gd : ∀ {a b : D} {r : Bool}, a.gd = true → b.gd = true → sceq a b = some r → (r = true ↔ a = b)
  | .non, .non, r, _, _, e => by cases e; simp
  | .int i, .int j, r, _, _, e => by cases e; simp
  | .str x, .str y, r, _, _, e => by cases e; simp
  | .non, .int _, r, _, _, e | .non, .str _, r, _, _, e | .int _, .non, r, _, _, e | .str _, .non, r, _, _, e | .int _, .str _, r, _, _, e | .str _, .int _, r, _, _, e => by cases e; simp
  | .bl _, _, _, h, _, _ | .scr _, _, _, h, _, _ | .dk _ _, _, _, h, _, _ | .dt _ _ _, _, _, h, _, _ | .ty _, _, _, h, _, _ => by simp [D.gd] at h
  | _, .bl _, _, _, h, _ | _, .scr _, _, _, h, _ | _, .dk _ _, _, _, h, _ | _, .dt _ _ _, _, _, h, _ | _, .ty _, _, _, h, _ => by simp [D.gd] at h
  | .tup _, .non, r, _, _, e | .tup _, .int _, r, _, _, e | .tup _, .str _, r, _, _, e | .tup _, .tup _, r, _, _, e | .tup _, .lst _, r, _, _, e => by cases e
  | .lst _, .non, r, _, _, e | .lst _, .int _, r, _, _, e | .lst _, .str _, r, _, _, e | .lst _, .tup _, r, _, _, e | .lst _, .lst _, r, _, _, e => by cases e
  | .non, .tup _, r, _, _, e | .int _, .tup _, r, _, _, e | .str _, .tup _, r, _, _, e | .non, .lst _, r, _, _, e | .int _, .lst _, r, _, _, e | .str _, .lst _, r, _, _, e => by cases e
theorem eqB_gd {a b : D} (ha : a.gd = true) (hb : b.gd = true) (da : a.dp ≤ 64) (db : b.dp ≤ 64) : ∃ r, eqB a b = some r ∧ (r = true ↔ a = b) := by
  unfold eqB
  cases e : sceq a b with
  | some r => exact ⟨r, rfl, sceq_gd ha hb e⟩
  | none =>
    dsimp only
    rw [if_pos ⟨gd_shaped ha da, gd_shaped hb db⟩]
    exact ⟨_, rfl, gd_eqv ha hb⟩
theorem wo_eqG {R : D → Prop} {a b : D} (ha : a.gd = true) (hb : b.gd = true) (da : a.dp ≤ 64) (db : b.dp ≤ 64) (q : ∀ r : Bool, (r = true ↔ a = b) → R (.bl r)) : Wo (eqD a b) R := by
  obtain ⟨r, e, h⟩ := eqB_gd ha hb da db
  unfold eqD
  rw [e, Wo_some]; exact q r h
theorem wo_neG {R : D → Prop} {a b : D} (ha : a.gd = true) (hb : b.gd = true) (da : a.dp ≤ 64) (db : b.dp ≤ 64) (q : ∀ r : Bool, (r = true ↔ a ≠ b) → R (.bl r)) : Wo (neD a b) R := by
  obtain ⟨r, e, h⟩ := eqB_gd ha hb da db
  unfold neD
  rw [e, Wo_some]
  refine q (!r) ?_
  rw [Ne, ← h]; cases r <;> simp
theorem wo_mulL {R : D → Prop} {ds : List D} {k : Int} (h1 : 0 ≤ k) (h2 : k ≤ 100000) (h3 : ds.length * k.toNat ≤ 100000) : Wo (mulD (.lst ds) (.int k)) R ↔ R (.lst (List.replicate k.toNat ds).flatten) := by
  have : mulD (.lst ds) (.int k) = some (.lst (List.replicate k.toNat ds).flatten) := by
    unfold mulD
    dsimp only
    rw [if_pos ⟨h2, by omega, h3⟩]
  rw [this, Wo_some]
theorem flat_one {d : D} : ∀ n : Nat, (List.replicate n [d]).flatten = List.replicate n d
  | 0 => rfl
  | n + 1 => by rw [List.replicate_succ, List.flatten_cons, flat_one n, List.replicate_succ]; rfl
theorem wo_mul1 {R : D → Prop} {d : D} {n : Nat} (h : n ≤ 100000) : Wo (mulD (.lst [d]) (.int (n : Int))) R ↔ R (.lst (List.replicate n d)) := by
  rw [wo_mulL (by omega) (by omega) (by simp; omega)]
  simp [flat_one]
end Mir
/-! What dicts of tuples do, as propositions. -/
namespace Mir
open PySem L2
section
variable [Hs] {env : Env} {Q : D → Env → Prop} {S : Fl → Env → Prop} {g : MG} {mk mv mi : ME} {mit : MI} {vs : List Nat} {i : Nat} {R : D → Prop}
theorem w_dc : W (mDc mit g mk mv vs env) Q ↔ W (mit env) fun ds e => plainAt e vs = true ∧ ds.length ≤ 100000 ∧ W (mDcL g mk mv vs ds [] [] (wipeE e vs)) fun r e2 => Q (.dt Hs.hs r.1 r.2) (backE e e2 vs) := by
  unfold mDc
  cases h : mit env with
  | none => with_unfolding_all rfl
  | some x =>
    obtain ⟨ds, e⟩ := x
    rw [W_some]
    dsimp only
    split
    · rename_i hc
      simp only [hc.1, hc.2, true_and]
      rcases mDcL g mk mv vs ds [] [] (wipeE e vs) with _ | ⟨⟨a, b⟩, c⟩ <;> with_unfolding_all rfl
    · rename_i hc
      simp only [W_none, false_iff]
      exact fun z => hc ⟨z.1, z.2.1⟩
theorem wdc_inv {ds : List D} {R : (List (List Key) × List D) → Env → Prop} (J : Nat → List (List Key) → List D → Env → Prop) (h0 : J 0 [] [] env) (hs : ∀ i d kk vv e, ds[i]? = some d → J i kk vv e → Wo (g d e) fun e1 => W (mk e1) fun dk e2 => Wo (keyTD dk) fun k => W (mv e2) fun y e3 => J (i + 1) (putTK kk k) (putTV kk vv k y) (wipeE e3 vs))
    (hn : ∀ kk vv e, J ds.length kk vv e → R (kk, vv) e) : W (mDcL g mk mv vs ds [] [] env) R := by
  have key : ∀ (rest : List D) (i : Nat) (kk : List (List Key)) (vv : List D) (e : Env), ds.drop i = rest → i ≤ ds.length → J i kk vv e → W (mDcL g mk mv vs rest kk vv e) R := by
    intro rest
    induction rest with
    | nil =>
      intro i kk vv e hd hi hJ
      have : ds.length ≤ i := List.drop_eq_nil_iff.mp hd
      have hi' : i = ds.length := by omega
      subst hi'
      with_unfolding_all exact hn kk vv e hJ
    | cons d rest ih =>
      intro i kk vv e hd hi hJ
      have hlt : i < ds.length := by
        by_cases h : i < ds.length
        · exact h
        · rw [List.drop_eq_nil_of_le (by omega)] at hd; cases hd
      have hc := List.drop_eq_getElem_cons hlt
      rw [hd] at hc
      injection hc with hc1 hc2
      have hg : ds[i]? = some d := by rw [List.getElem?_eq_getElem hlt, hc1]
      have h1 := hs i d kk vv e hg hJ
      unfold mDcL
      obtain ⟨e1, q1, h1⟩ := h1.ex
      rw [q1]
      obtain ⟨dk, e2, q2, h2⟩ := h1.ex
      dsimp only
      rw [q2]
      obtain ⟨k, q3, h3⟩ := h2.ex
      dsimp only
      rw [q3]
      obtain ⟨y, e3, q4, h4⟩ := h3.ex
      dsimp only
      rw [q4]
      exact ih (i + 1) _ _ _ hc2.symm hlt h4
  exact key ds 0 [] [] env rfl (Nat.zero_le _) h0
@[simp] theorem w_put3 : W (mPut3 i mi mv env) S ↔ W (mv env) fun dv e1 => W (ownAt e1 i) fun _ _ => W (mi e1) fun di e2 => W (ownAt e2 i) fun b d0 => Wo (set3D d0 di dv) fun d1 => S .nx (e2.set i (.own b d1)) := by
  unfold mPut3 ownAt
  rcases mv env with _ | ⟨dv, e1⟩
  · simp
  · simp only [W_some]
    rcases e1[i]? with _ | _ | _ | ⟨b0, d00⟩ <;> simp
    rcases mi e1 with _ | ⟨di, e2⟩
    · simp
    · simp only [W_some]
      rcases e2[i]? with _ | _ | _ | ⟨b, d0⟩ <;> simp
      rcases set3D d0 di dv with _ | d1 <;> simp
theorem wo_ix3 {kk : List (List Key)} {vv : List D} {y v : D} {k : List Key} (hk : keyTD y = some k) (h : lookT kk vv k = some v) : Wo (ix3D (.dt Hs.hs kk vv) y) R ↔ R v := by
  have : ix3D (.dt Hs.hs kk vv) y = some v := by
    unfold ix3D
    dsimp only
    rw [if_pos rfl, hk]
    exact h
  rw [this, Wo_some]
theorem wo_set3 {kk : List (List Key)} {vv : List D} {y v : D} {k : List Key} (hk : keyTD y = some k) (h : kk.length < 100000) : Wo (set3D (.dt Hs.hs kk vv) y v) R ↔ R (.dt Hs.hs (putTK kk k) (putTV kk vv k v)) := by
  have : set3D (.dt Hs.hs kk vv) y v = some (.dt Hs.hs (putTK kk k) (putTV kk vv k v)) := by
    unfold set3D
    dsimp only
    rw [if_pos rfl, hk]
    dsimp only
    rw [if_pos h]
  rw [this, Wo_some]
end
theorem lookT_cons {k0 k : List Key} {ks : List (List Key)} {v : D} {vs : List D} : lookT (k0 :: ks) (v :: vs) k = if k0 = k then some v else lookT ks vs k := by
  unfold lookT
  rw [List.zip_cons_cons, List.find?_cons]
  by_cases h : k0 = k <;> simp [h]
theorem lookT_app {k q : List Key} {v : D} : ∀ {ks : List (List Key)} {vs : List D}, ks.length = vs.length → lookT (ks ++ [k]) (vs ++ [v]) q = match lookT ks vs q with | some x => some x | none => if k = q then some v else none
  | [], [], _ => by
    rw [List.nil_append, List.nil_append, lookT_cons]
    rfl
  | k0 :: ks, v0 :: vs, h => by
    rw [List.cons_append, List.cons_append, lookT_cons, lookT_cons, lookT_app (by simpa using h)]
    by_cases h : k0 = q <;> simp [h]
  | [], _ :: _, h => by simp at h
  | _ :: _, [], h => by simp at h
theorem lookT_none {k : List Key} : ∀ {ks : List (List Key)} {vs : List D}, ks.length = vs.length → (ks.any fun x => decide (x = k)) = false → lookT ks vs k = none
  | [], [], _, _ => rfl
  | k0 :: ks, v0 :: vs, h, e => by
    rw [List.any_cons, Bool.or_eq_false_iff] at e
    have e1 : ¬ k0 = k := by simpa using e.1
    rw [lookT_cons, if_neg e1]
    exact lookT_none (by simpa using h) e.2
  | [], _ :: _, h, _ => by simp at h
  | _ :: _, [], h, _ => by simp at h
theorem lookT_zip {k q : List Key} {v : D} : ∀ {ks : List (List Key)} {vs : List D}, ks.length = vs.length → lookT ks (List.zipWith (fun x w => if x = k then v else w) ks vs) q = if q = k ∧ (ks.any fun x => decide (x = k)) = true then some v else lookT ks vs q
  | [], [], _ => by simp [lookT]
  | k0 :: ks, v0 :: vs, h => by
    rw [List.zipWith_cons_cons, lookT_cons, lookT_cons, lookT_zip (by simpa using h), List.any_cons]
    by_cases h1 : k0 = q
    · subst h1
      by_cases h2 : k0 = k <;> simp [h2]
    · by_cases h2 : q = k
      · subst h2
        rw [if_neg h1, if_neg h1, decide_eq_false h1, Bool.false_or]
      · simp [h1, h2]
  | [], _ :: _, h => by simp at h
  | _ :: _, [], h => by simp at h
theorem putT_len {ks : List (List Key)} {vs : List D} {k : List Key} {v : D} (h : ks.length = vs.length) : (putTK ks k).length = (putTV ks vs k v).length := by
  unfold putTK putTV
  split <;> simp [h]
theorem putT_look {ks : List (List Key)} {vs : List D} {k : List Key} {v : D} (h : ks.length = vs.length) (q : List Key) : lookT (putTK ks k) (putTV ks vs k v) q = if q = k then some v else lookT ks vs q := by
  unfold putTK putTV
  by_cases e : (ks.any fun x => decide (x = k)) = true
  · rw [if_pos e, if_pos e, lookT_zip h]
    by_cases z : q = k <;> simp [z, e]
  · rw [if_neg e, if_neg e, lookT_app h]
    by_cases z : q = k
    · subst z
      rw [lookT_none h (Bool.eq_false_iff.mpr e)]
      try simp
    · rw [if_neg z]
      have z' : ¬ k = q := fun e => z e.symm
      cases lookT ks vs q <;> simp [z']
end Mir
/-! The plain law of certificates: sums over transactions. -/
namespace Mir
open PySem L2
inductive Sx where
  | all | none | sec (s : Str) | not (x : Sx) | and (x y : Sx) | or (x y : Sx)
def Sx.ev (v : Str → Bool) : Sx → Bool
  | .all => true
  | .none => false
  | .sec s => v s
  | .not x => !x.ev v
  | .and x y => x.ev v && y.ev v
  | .or x y => x.ev v || y.ev v
def ix (ss : List Str) (s : Str) : Nat := (ss.findIdx? (· == s)).getD 0
def bl (ss : List Str) (q : Nat) (x : Sx) : Bool := x.ev fun s => q.testBit (ix ss s)
abbrev En := Str × Int
def entS (es : List En) (s : Str) : Int := (es.map fun p => if p.1 = s then p.2 else 0).sum
structure Kin where
  nm : Str
  px : Sx
  giv : List En
  py : Sx
  tak : List En
inductive Cn where
  | sum (ts : List (Int × Str × Sx)) (r : Bool)
  | each (x : Sx) (ts : List (Int × Str)) (r : Bool)
def Cn.rel : Cn → Bool
  | .sum _ r => r
  | .each _ _ r => r
/-- the profile of a group -/
def gp (N : Nat) (π : Option Nat) (i : Nat) : Nat := if i < N then i else π.getD 0
def gn (N : Nat) : Option Nat → Nat
  | none => N
  | some _ => N + 1
def tms (ts : List (Int × Str)) (s : Str) : Int := (ts.map fun t => if t.2 = s then t.1 else 0).sum
/-- the terms of a constraint that count at a group -/
def tmc (ss : List Str) (N : Nat) (π : Option Nat) (c : Cn) (g : Option Nat) (i : Nat) : List (Int × Str) :=
  match c with
  | .sum ts _ => (ts.filter fun t => bl ss (gp N π i) t.2.2).map fun t => (t.1, t.2.1)
  | .each _ ts _ => if some i = g then ts else []
def wt (ss : List Str) (N : Nat) (π : Option Nat) (c : Cn) (g : Option Nat) (i : Nat) (s : Str) : Int := tms (tmc ss N π c g i) s
def wth (ac : List Str) (w : Str → Int) (es : List En) : Int := (ac.map fun s => w s * entS es s).sum
def con (ac : List Str) (w : Nat → Str → Int) (k : Kin) (i j : Nat) : Int := wth ac (w i) k.giv + wth ac (w j) k.tak
/-! sums -/
theorem sum_app (xs ys : List Int) : (xs ++ ys).sum = xs.sum + ys.sum := List.sum_append
theorem sum_mul_l (c : Int) : ∀ xs : List Int, (xs.map fun x => c * x).sum = c * xs.sum
  | [] => by simp
  | x :: xs => by simp only [List.map_cons, List.sum_cons, sum_mul_l c xs, Int.mul_add]
theorem sum_congr {α : Type} {f g : α → Int} {xs : List α} (h : ∀ x ∈ xs, f x = g x) : (xs.map f).sum = (xs.map g).sum := by
  rw [List.map_congr_left h]
theorem sum_swap {α β : Type} (f : α → β → Int) : ∀ (xs : List α) (ys : List β), (xs.map fun x => (ys.map fun y => f x y).sum).sum = (ys.map fun y => (xs.map fun x => f x y).sum).sum
  | [], ys => by simp [sum_map_zero]
  | x :: xs, ys => by
    simp only [List.map_cons, List.sum_cons]
    rw [sum_swap f xs ys, ← sum_map_add]
theorem sum_pick {n a : Nat} (f : Nat → Int) (h : a < n) : ((List.range n).map fun p => if p = a then f p else 0).sum = f a := by
  induction n with
  | zero => omega
  | succ n ih =>
    rw [List.range_succ, List.map_append, List.sum_append]
    by_cases e : a = n
    · subst e
      have z : ((List.range a).map fun p => if p = a then f p else 0).sum = 0 := by
        rw [sum_congr (g := fun _ => 0) fun p hp => by
          have := List.mem_range.mp hp
          rw [if_neg (by omega)]]
        exact sum_map_zero _
      rw [z]; simp
    · rw [ih (by omega)]
      have : ¬ n = a := fun z => e z.symm
      simp [this]
theorem tms_pick {ac : List Str} (hn : ac.Nodup) {t : Str} (ht : t ∈ ac) (f : Str → Int) : (ac.map fun s => if t = s then f s else 0).sum = f t := by
  induction ac with
  | nil => cases ht
  | cons a ac ih =>
    rw [List.nodup_cons] at hn
    rw [List.map_cons, List.sum_cons]
    by_cases e : t = a
    · subst e
      rw [if_pos rfl, sum_congr (g := fun _ => 0) fun s hs => by rw [if_neg fun z : t = s => hn.1 (by rw [z]; exact hs)], sum_map_zero]
      omega
    · rw [if_neg e]
      rcases List.mem_cons.mp ht with h | h
      · exact absurd h e
      · rw [ih hn.2 h]; omega
/-- the weights of some terms against amounts of the accounts -/
theorem tms_sum {ac : List Str} (hn : ac.Nodup) (b : Str → Int) : ∀ {ts : List (Int × Str)}, (∀ t ∈ ts, t.2 ∈ ac) → (ac.map fun s => tms ts s * b s).sum = (ts.map fun t => t.1 * b t.2).sum
  | [], _ => by simp [tms, sum_map_zero]
  | t :: ts, h => by
    have ih := tms_sum hn b (ts := ts) fun u hu => h u (by simp [hu])
    rw [List.map_cons, List.sum_cons, ← ih]
    have e : ∀ s ∈ ac, tms (t :: ts) s * b s = (if t.2 = s then t.1 * b s else 0) + tms ts s * b s := fun s _ => by
      unfold tms
      rw [List.map_cons, List.sum_cons, Int.add_mul]
      congr 1
      split <;> simp
    rw [sum_congr e, sum_map_add, tms_pick hn (h t (by simp)) fun s => t.1 * b s]
/-! ledgers -/
structure Tx where
  k : Kin
  a : Nat
  b : Nat
  x : Int
def bk (ts : List Tx) (p : Nat) (s : Str) : Int := (ts.map fun t => (if p = t.a then t.x * entS t.k.giv s else 0) + (if p = t.b then t.x * entS t.k.tak s else 0)).sum
/-- posting: the transactions' contributions are the participants' weighted balances -/
theorem post_id {ac : List Str} {n : Nat} (w : Nat → Str → Int) (G : Nat → Nat) : ∀ {ts : List Tx}, (∀ t ∈ ts, t.a < n ∧ t.b < n) →
    (ts.map fun t => t.x * con ac w t.k (G t.a) (G t.b)).sum = ((List.range n).map fun p => (ac.map fun s => w (G p) s * bk ts p s).sum).sum
  | [], _ => by
    simp only [List.map_nil, List.sum_nil]
    rw [sum_congr (g := fun _ => 0) fun p _ => by
      rw [sum_congr (g := fun _ => 0) fun s _ => by simp [bk]]
      exact sum_map_zero _]
    exact (sum_map_zero _).symm
  | t :: ts, h => by
    have ih := post_id (ac := ac) w G (ts := ts) fun u hu => h u (by simp [hu])
    obtain ⟨ha, hb⟩ := h t (by simp)
    rw [List.map_cons, List.sum_cons, ih]
    have e1 : ∀ p ∈ List.range n, (ac.map fun s => w (G p) s * bk (t :: ts) p s).sum = ((if p = t.a then t.x * wth ac (w (G p)) t.k.giv else 0) + (if p = t.b then t.x * wth ac (w (G p)) t.k.tak else 0)) + (ac.map fun s => w (G p) s * bk ts p s).sum := fun p _ => by
      have e2 : ∀ s ∈ ac, w (G p) s * bk (t :: ts) p s = ((if p = t.a then t.x * (w (G p) s * entS t.k.giv s) else 0) + (if p = t.b then t.x * (w (G p) s * entS t.k.tak s) else 0)) + w (G p) s * bk ts p s := fun s _ => by
        unfold bk
        rw [List.map_cons, List.sum_cons, Int.mul_add, Int.mul_add]
        congr 2
        · split
          · rw [Int.mul_left_comm]
          · simp
        · split
          · rw [Int.mul_left_comm]
          · simp
      rw [sum_congr e2, sum_map_add, sum_map_add]
      congr 2
      · unfold wth
        by_cases z : p = t.a
        · simp only [if_pos z]; rw [sum_map_mul]
        · simp only [if_neg z]; exact sum_map_zero _
      · unfold wth
        by_cases z : p = t.b
        · simp only [if_pos z]; rw [sum_map_mul]
        · simp only [if_neg z]; exact sum_map_zero _
    rw [sum_congr e1, sum_map_add, sum_map_add, sum_pick (fun p => t.x * wth ac (w (G p)) t.k.giv) ha, sum_pick (fun p => t.x * wth ac (w (G p)) t.k.tak) hb]
    unfold con
    rw [Int.mul_add]
end Mir
namespace Mir
open PySem L2
/-! obligations, certificates -/
abbrev Rr := Nat × Option Nat × Int
def sg (r : Bool) : List Int := if r then [1, -1] else [1]
/-- the groups of an area -/
def grp (ss : List Str) (N : Nat) (π : Option Nat) (x : Sx) : List Nat := (List.range (gn N π)).filter fun i => bl ss (gp N π i) x
def grpsOf (ss : List Str) (N : Nat) (π : Option Nat) : Cn → List (Option Nat)
  | .sum _ _ => [none]
  | .each x _ _ => (grp ss N π x).map some
def rowsOf (ss : List Str) (N : Nat) (π : Option Nat) (k : Nat) (c : Cn) : List Rr := (grpsOf ss N π c).flatMap fun g => (sg c.rel).map fun s => (k, g, s)
def rowsFrom (ss : List Str) (N : Nat) (π : Option Nat) : Nat → List Cn → List Rr
  | _, [] => []
  | k, c :: cs => rowsOf ss N π k c ++ rowsFrom ss N π (k + 1) cs
def foc (ss : List Str) (N : Nat) : Cn → List (Option Nat)
  | .sum _ _ => [none]
  | .each x _ _ => ((List.range N).filter fun q => bl ss q x).map some
abbrev Ob := Option Nat × Int
def obl (ss : List Str) (N : Nat) (c : Cn) : List Ob := (foc ss N c).flatMap fun π => (sg c.rel).map fun s => (π, s)
/-- a unit of a kind -/
def unitOk (ss : List Str) (N : Nat) (π : Option Nat) (k : Kin) (i j : Nat) : Prop := i < gn N π ∧ j < gn N π ∧ bl ss (gp N π i) k.px = true ∧ bl ss (gp N π j) k.py = true ∧ (i < N ∨ j < N)
def rowC (ss ac : List Str) (N : Nat) (π : Option Nat) (prs : List Cn) (r : Rr) (k : Kin) (i j : Nat) : Int := r.2.2 * con ac (wt ss N π (prs.getD r.1 (.sum [] false)) r.2.1) k i j
def goalC (ss ac : List Str) (N : Nat) (o : Ob) (c : Cn) (k : Kin) (i j : Nat) : Int := o.2 * con ac (wt ss N o.1 c (some N)) k i j
/-- the multipliers of one obligation -/
def validM (ss ac : List Str) (N : Nat) (ks : List Kin) (prs : List Cn) (c : Cn) (o : Ob) (l : List Int) : Prop :=
  ∃ l0 ls, l = l0 :: ls ∧ ls.length = (rowsFrom ss N o.1 0 prs).length ∧ 1 ≤ l0 ∧ (∀ y ∈ ls, 0 ≤ y) ∧
    ∀ k ∈ ks, ∀ i j, unitOk ss N o.1 k i j → 0 ≤ l0 * goalC ss ac N o c k i j - ((ls.zip (rowsFrom ss N o.1 0 prs)).map fun z => z.1 * rowC ss ac N o.1 prs z.2 k i j).sum
def validC (ss ac : List Str) (N : Nat) (ks : List Kin) (prs : List Cn) (c : Cn) (ct : List (List Int)) : Prop :=
  ct.length = (obl ss N c).length ∧ ∀ (i : Nat) o l, (obl ss N c)[i]? = some o → ct[i]? = some l → validM ss ac N ks prs c o l
/-! what a constraint asks of a ledger -/
def met1 (r : Bool) (v : Int) : Prop := 0 ≤ v ∧ (r = true → v ≤ 0)
def valT (ss : List Str) (B : Nat → Str → Int) (prof : Nat → Nat) (ts : List (Int × Str × Sx)) (p : Nat) : Int := ((ts.filter fun t => bl ss (prof p) t.2.2).map fun t => t.1 * B p t.2.1).sum
def valE (B : Nat → Str → Int) (ts : List (Int × Str)) (p : Nat) : Int := (ts.map fun t => t.1 * B p t.2).sum
def met (ss : List Str) (n : Nat) (prof : Nat → Nat) (B : Nat → Str → Int) : Cn → Prop
  | .sum ts r => met1 r ((List.range n).map fun p => valT ss B prof ts p).sum
  | .each x ts r => ∀ p, p < n → bl ss (prof p) x = true → met1 r (valE B ts p)
def Cn.ok (ac : List Str) : Cn → Prop
  | .sum ts _ => ∀ t ∈ ts, t.2.1 ∈ ac
  | .each _ ts _ => ∀ t ∈ ts, t.2 ∈ ac
/-- the group of a participant -/
def gof (N : Nat) (prof : Nat → Nat) : Option Nat → Nat → Nat
  | none, p => prof p
  | some m, p => if p = m then N else prof p
def pof (prof : Nat → Nat) : Option Nat → Option Nat
  | none => none
  | some m => some (prof m)
theorem gp_gof {N : Nat} {prof : Nat → Nat} (h : ∀ p, prof p < N) (l : Option Nat) (p : Nat) : gp N (pof prof l) (gof N prof l p) = prof p := by
  cases l with
  | none => simp [gof, pof, gp, h p]
  | some m =>
    unfold gof pof
    by_cases e : p = m
    · subst e
      simp [gp]
    · simp [e, gp, h p]
theorem gof_lt {N : Nat} {prof : Nat → Nat} (h : ∀ p, prof p < N) (l : Option Nat) (p : Nat) : gof N prof l p < gn N (pof prof l) := by
  cases l with
  | none => exact h p
  | some m =>
    unfold gof pof
    have := h p
    show (if p = m then N else prof p) < N + 1
    split <;> omega
/-- the weighted balances of a constraint at a group -/
def tot (ss ac : List Str) (N : Nat) (π : Option Nat) (G : Nat → Nat) (n : Nat) (B : Nat → Str → Int) (c : Cn) (g : Option Nat) : Int := ((List.range n).map fun p => (ac.map fun s => wt ss N π c g (G p) s * B p s).sum).sum
theorem tot_sum {ss ac : List Str} {N n : Nat} {prof : Nat → Nat} {B : Nat → Str → Int} (hn : ac.Nodup) (h : ∀ p, prof p < N) (l : Option Nat) {ts : List (Int × Str × Sx)} {r : Bool} (ht : ∀ t ∈ ts, t.2.1 ∈ ac) (g : Option Nat) :
    tot ss ac N (pof prof l) (gof N prof l) n B (.sum ts r) g = ((List.range n).map fun p => valT ss B prof ts p).sum := by
  unfold tot
  refine sum_congr fun p _ => ?_
  unfold wt tmc
  dsimp only
  rw [tms_sum hn (B p) fun t hm => ?_]
  · rw [gp_gof h, List.map_map]
    rfl
  · obtain ⟨u, hu, rfl⟩ := List.mem_map.mp hm
    exact ht u (List.mem_filter.mp hu).1
theorem tot_each {ss ac : List Str} {N n : Nat} {B : Nat → Str → Int} (hn : ac.Nodup) (π : Option Nat) (G : Nat → Nat) {x : Sx} {ts : List (Int × Str)} {r : Bool} (ht : ∀ t ∈ ts, t.2 ∈ ac) (g : Nat) :
    tot ss ac N π G n B (.each x ts r) (some g) = ((List.range n).map fun p => if G p = g then valE B ts p else 0).sum := by
  unfold tot
  refine sum_congr fun p _ => ?_
  unfold wt tmc
  dsimp only
  by_cases e : G p = g
  · rw [if_pos (by rw [e]), if_pos e, tms_sum hn (B p) ht]
    rfl
  · rw [if_neg (fun z => e (by injection z)), if_neg e]
    exact (sum_congr (g := fun _ => 0) fun s _ => by simp [tms]).trans (sum_map_zero _)
theorem sum_nn {α : Type} {f : α → Int} {xs : List α} (h : ∀ x ∈ xs, 0 ≤ f x) : 0 ≤ (xs.map f).sum := sum_nonneg fun y hy => by
  obtain ⟨x, hx, rfl⟩ := List.mem_map.mp hy
  exact h x hx
theorem sum_np {α : Type} {f : α → Int} {xs : List α} (h : ∀ x ∈ xs, f x ≤ 0) : (xs.map f).sum ≤ 0 := by
  have := sum_nn (f := fun x => -f x) (xs := xs) fun x hx => by have := h x hx; omega
  have e : (xs.map fun x => -f x).sum = -(xs.map f).sum := by
    have := sum_map_mul (c := -1) (f := f) xs
    rw [Int.neg_one_mul] at this
    rw [← this]
    exact sum_congr fun x _ => by omega
  omega
theorem sg_mem {r : Bool} {s : Int} (h : s ∈ sg r) : s = 1 ∨ (s = -1 ∧ r = true) := by
  unfold sg at h
  cases r <;> simp at h
  · exact .inl h
  · rcases h with h | h
    · exact .inl h
    · exact .inr ⟨h, rfl⟩
theorem row_nn {ss ac : List Str} {N n : Nat} {prof : Nat → Nat} {B : Nat → Str → Int} (hn : ac.Nodup) (h : ∀ p, prof p < N) (l : Option Nat) {k : Nat} {c : Cn} (hc : c.ok ac) (hm : met ss n prof B c) {r : Rr} (hr : r ∈ rowsOf ss N (pof prof l) k c) :
    0 ≤ r.2.2 * tot ss ac N (pof prof l) (gof N prof l) n B c r.2.1 := by
  unfold rowsOf at hr
  obtain ⟨g, hg, hr⟩ := List.mem_flatMap.mp hr
  obtain ⟨s, hs, rfl⟩ := List.mem_map.mp hr
  cases c with
  | sum ts rl =>
    show 0 ≤ s * tot _ _ _ _ _ _ _ _ _
    rw [tot_sum hn h l hc]
    obtain ⟨m1, m2⟩ := hm
    rcases sg_mem hs with rfl | ⟨rfl, e⟩
    · rw [Int.one_mul]; exact m1
    · have := m2 e
      omega
  | each x ts rl =>
    obtain ⟨i, hi, rfl⟩ := List.mem_map.mp hg
    show 0 ≤ s * tot _ _ _ _ _ _ _ _ _
    rw [tot_each hn _ _ hc]
    have hb := (List.mem_filter.mp hi).2
    have key : ∀ p ∈ List.range n, gof N prof l p = i → met1 rl (valE B ts p) := fun p hp e => by
      refine hm p (List.mem_range.mp hp) ?_
      rw [← e, gp_gof h] at hb
      exact hb
    rcases sg_mem hs with rfl | ⟨rfl, e⟩
    · rw [Int.one_mul]
      refine sum_nn fun p hp => ?_
      by_cases z : gof N prof l p = i
      · rw [if_pos z]; exact (key p hp z).1
      · rw [if_neg z]; exact Int.le_refl _
    · have : ((List.range n).map fun p => if gof N prof l p = i then valE B ts p else 0).sum ≤ 0 := sum_np fun p hp => by
        by_cases z : gof N prof l p = i
        · rw [if_pos z]; exact (key p hp z).2 e
        · rw [if_neg z]; exact Int.le_refl _
      omega
theorem rows_mem {ss : List Str} {N : Nat} {π : Option Nat} {r : Rr} : ∀ {cs : List Cn} {k : Nat}, r ∈ rowsFrom ss N π k cs → ∃ i c, cs[i]? = some c ∧ r ∈ rowsOf ss N π (k + i) c
  | [], k, h => by cases h
  | c :: cs, k, h => by
    unfold rowsFrom at h
    rcases List.mem_append.mp h with h | h
    · exact ⟨0, c, rfl, h⟩
    · obtain ⟨i, c', h1, h2⟩ := rows_mem h
      exact ⟨i + 1, c', by simpa using h1, by rw [show k + (i + 1) = k + 1 + i by omega]; exact h2⟩
theorem rowsOf_ix {ss : List Str} {N : Nat} {π : Option Nat} {k : Nat} {c : Cn} {r : Rr} (h : r ∈ rowsOf ss N π k c) : r.1 = k := by
  unfold rowsOf at h
  obtain ⟨g, _, h⟩ := List.mem_flatMap.mp h
  obtain ⟨s, _, rfl⟩ := List.mem_map.mp h
  rfl
structure LgOk (ss : List Str) (N n : Nat) (prof : Nat → Nat) (ks : List Kin) (ts : List Tx) : Prop where
  pr : ∀ p, prof p < N
  tx : ∀ t ∈ ts, t.k ∈ ks ∧ t.a < n ∧ t.b < n ∧ t.a ≠ t.b ∧ 0 ≤ t.x ∧ bl ss (prof t.a) t.k.px = true ∧ bl ss (prof t.b) t.k.py = true
/-- the heart: no ledger refutes a claim with valid multipliers for the obligation that it would violate -/
theorem sound1 {ss ac : List Str} {N n : Nat} {prof : Nat → Nat} {ks : List Kin} {ts : List Tx} {prs : List Cn} {c : Cn} (hn : ac.Nodup) (L : LgOk ss N n prof ks ts) (hp : ∀ d ∈ prs, d.ok ac ∧ met ss n prof (bk ts) d) (l : Option Nat) {s : Int} {ml : List Int}
    (hv : validM ss ac N ks prs c (pof prof l, s) ml) (hneg : s * tot ss ac N (pof prof l) (gof N prof l) n (bk ts) c (some N) < 0) : False := by
  obtain ⟨l0, ls, _, _, h1, h0, hsl⟩ := hv
  obtain ⟨rows, hrows⟩ : ∃ x, x = rowsFrom ss N (pof prof l) 0 prs := ⟨_, rfl⟩
  simp only at hsl
  rw [← hrows] at hsl
  have hG := gof_lt L.pr l
  have hall : 0 ≤ (ts.map fun t => t.x * (l0 * goalC ss ac N (pof prof l, s) c t.k (gof N prof l t.a) (gof N prof l t.b) - ((ls.zip rows).map fun z => z.1 * rowC ss ac N (pof prof l) prs z.2 t.k (gof N prof l t.a) (gof N prof l t.b)).sum)).sum := by
    refine sum_nn fun t ht => ?_
    obtain ⟨e1, e2, e3, e4, e5, e6, e7⟩ := L.tx t ht
    refine Int.mul_nonneg e5 (hsl t.k e1 _ _ ⟨hG _, hG _, by rw [gp_gof L.pr]; exact e6, by rw [gp_gof L.pr]; exact e7, ?_⟩)
    cases l with
    | none => exact .inl (L.pr _)
    | some m =>
      by_cases z : t.a = m
      · right
        show (if t.b = m then N else prof t.b) < N
        rw [if_neg (fun w : t.b = m => e4 (z.trans w.symm))]
        exact L.pr _
      · left
        show (if t.a = m then N else prof t.a) < N
        rw [if_neg z]
        exact L.pr _
  have hin : ∀ t ∈ ts, t.a < n ∧ t.b < n := fun t ht => let ⟨_, a, b, _⟩ := L.tx t ht; ⟨a, b⟩
  have hgoal : (ts.map fun t => t.x * goalC ss ac N (pof prof l, s) c t.k (gof N prof l t.a) (gof N prof l t.b)).sum = s * tot ss ac N (pof prof l) (gof N prof l) n (bk ts) c (some N) := by
    unfold tot
    rw [← post_id (wt ss N (pof prof l) c (some N)) (gof N prof l) hin, ← sum_map_mul]
    exact sum_congr fun t _ => by unfold goalC; rw [Int.mul_left_comm]
  have hrow : ∀ r ∈ rows, 0 ≤ (ts.map fun t => t.x * rowC ss ac N (pof prof l) prs r t.k (gof N prof l t.a) (gof N prof l t.b)).sum := fun r hr => by
    rw [hrows] at hr
    obtain ⟨i, d, hd, hr2⟩ := rows_mem hr
    have hix := rowsOf_ix hr2
    rw [Nat.zero_add] at hix
    obtain ⟨hdo, hdm⟩ := hp d (List.mem_of_getElem? hd)
    have := row_nn hn L.pr l hdo hdm hr2
    have e : (ts.map fun t => t.x * rowC ss ac N (pof prof l) prs r t.k (gof N prof l t.a) (gof N prof l t.b)).sum = r.2.2 * tot ss ac N (pof prof l) (gof N prof l) n (bk ts) d r.2.1 := by
      unfold tot
      rw [← post_id (wt ss N (pof prof l) d r.2.1) (gof N prof l) hin, ← sum_map_mul]
      refine sum_congr fun t _ => ?_
      unfold rowC
      rw [hix, List.getD_eq_getElem?_getD, hd]
      simp only [Option.getD_some]
      rw [Int.mul_left_comm]
    rw [e]; exact this
  have hsplit : (ts.map fun t => t.x * (l0 * goalC ss ac N (pof prof l, s) c t.k (gof N prof l t.a) (gof N prof l t.b) - ((ls.zip rows).map fun z => z.1 * rowC ss ac N (pof prof l) prs z.2 t.k (gof N prof l t.a) (gof N prof l t.b)).sum)).sum
      = l0 * (ts.map fun t => t.x * goalC ss ac N (pof prof l, s) c t.k (gof N prof l t.a) (gof N prof l t.b)).sum - ((ls.zip rows).map fun z => z.1 * (ts.map fun t => t.x * rowC ss ac N (pof prof l) prs z.2 t.k (gof N prof l t.a) (gof N prof l t.b)).sum).sum := by
    have e1 : ∀ t ∈ ts, t.x * (l0 * goalC ss ac N (pof prof l, s) c t.k (gof N prof l t.a) (gof N prof l t.b) - ((ls.zip rows).map fun z => z.1 * rowC ss ac N (pof prof l) prs z.2 t.k (gof N prof l t.a) (gof N prof l t.b)).sum)
        = l0 * (t.x * goalC ss ac N (pof prof l, s) c t.k (gof N prof l t.a) (gof N prof l t.b)) - ((ls.zip rows).map fun z => z.1 * (t.x * rowC ss ac N (pof prof l) prs z.2 t.k (gof N prof l t.a) (gof N prof l t.b))).sum := fun t _ => by
      rw [Int.mul_sub, Int.mul_left_comm, ← sum_map_mul]
      congr 1
      exact sum_congr fun z _ => Int.mul_left_comm ..
    rw [sum_congr e1, sum_map_sub, sum_map_mul, sum_swap]
    congr 1
    exact sum_congr fun z _ => sum_map_mul _
  rw [hsplit, hgoal] at hall
  have hrest : 0 ≤ ((ls.zip rows).map fun z => z.1 * (ts.map fun t => t.x * rowC ss ac N (pof prof l) prs z.2 t.k (gof N prof l t.a) (gof N prof l t.b)).sum).sum := by
    refine sum_nn fun z hz => ?_
    obtain ⟨h2, h3⟩ := List.of_mem_zip (show (z.1, z.2) ∈ ls.zip rows from hz)
    exact Int.mul_nonneg (h0 _ h2) (hrow _ h3)
  have : l0 * (s * tot ss ac N (pof prof l) (gof N prof l) n (bk ts) c (some N)) < 0 := Int.mul_neg_of_pos_of_neg (by omega) hneg
  omega
theorem obl_mem {ss : List Str} {N : Nat} {c : Cn} {π : Option Nat} {s : Int} (h1 : π ∈ foc ss N c) (h2 : s ∈ sg c.rel) : (π, s) ∈ obl ss N c :=
  List.mem_flatMap.mpr ⟨π, h1, List.mem_map.mpr ⟨s, h2, rfl⟩⟩
/-- a valid certificate: no ledger that meets the premises violates the conclusion -/
theorem sound {ss ac : List Str} {N n : Nat} {prof : Nat → Nat} {ks : List Kin} {ts : List Tx} {prs : List Cn} {c : Cn} {ct : List (List Int)} (hn : ac.Nodup) (L : LgOk ss N n prof ks ts) (hc : c.ok ac) (hp : ∀ d ∈ prs, d.ok ac ∧ met ss n prof (bk ts) d)
    (hv : validC ss ac N ks prs c ct) : met ss n prof (bk ts) c := by
  obtain ⟨hl, hv⟩ := hv
  have get : ∀ π s, π ∈ foc ss N c → s ∈ sg c.rel → ∃ ml, validM ss ac N ks prs c (π, s) ml := fun π s h1 h2 => by
    obtain ⟨i, hi⟩ := List.mem_iff_getElem?.mp (obl_mem h1 h2)
    have hlt := (List.getElem?_eq_some_iff.mp hi).1
    exact ⟨_, hv i _ _ hi (List.getElem?_eq_getElem (by omega))⟩
  have pos1 : (1 : Int) ∈ sg c.rel := by unfold sg; split <;> simp
  have neg1 : c.rel = true → (-1 : Int) ∈ sg c.rel := fun h => by unfold sg; rw [if_pos h]; simp
  cases c with
  | sum cs r =>
    have hf : (none : Option Nat) ∈ foc ss N (.sum cs r) := by simp [foc]
    refine ⟨?_, fun hr => ?_⟩
    · apply Classical.byContradiction
      intro hlt
      obtain ⟨ml, hm⟩ := get none 1 hf pos1
      refine sound1 hn L hp none hm ?_
      rw [tot_sum hn L.pr none hc]
      omega
    · apply Classical.byContradiction
      intro hlt
      obtain ⟨ml, hm⟩ := get none (-1) hf (neg1 hr)
      refine sound1 hn L hp none hm ?_
      rw [tot_sum hn L.pr none hc]
      omega
  | each x cs r =>
    intro p hpn hb
    have hf : some (prof p) ∈ foc ss N (.each x cs r) := List.mem_map.mpr ⟨prof p, List.mem_filter.mpr ⟨List.mem_range.mpr (L.pr p), hb⟩, rfl⟩
    have ht : tot ss ac N (pof prof (some p)) (gof N prof (some p)) n (bk ts) (.each x cs r) (some N) = valE (bk ts) cs p := by
      rw [tot_each hn _ _ hc]
      rw [sum_congr (g := fun q => if q = p then valE (bk ts) cs q else 0) fun q _ => ?_]
      · exact sum_pick _ hpn
      · show (if (if q = p then N else prof q) = N then valE (bk ts) cs q else 0) = _
        by_cases z : q = p
        · rw [if_pos z, if_pos rfl, if_pos z]
        · rw [if_neg z, if_neg (fun w : prof q = N => by have := L.pr q; omega), if_neg z]
    refine ⟨?_, fun hr => ?_⟩
    · apply Classical.byContradiction
      intro hlt
      obtain ⟨ml, hm⟩ := get (some (prof p)) 1 hf pos1
      refine sound1 hn L hp (some p) hm ?_
      rw [ht]
      omega
    · apply Classical.byContradiction
      intro hlt
      obtain ⟨ml, hm⟩ := get (some (prof p)) (-1) hf (neg1 hr)
      refine sound1 hn L hp (some p) hm ?_
      rw [ht]
      omega
end Mir
namespace Mir
open PySem L2
/-! the known certificate -/
def sumK : Nat → List Cn → (Nat → Cn → Int) → Int
  | _, [], _ => 0
  | k, c :: cs, f => f k c + sumK (k + 1) cs f
theorem sumK_congr {f g : Nat → Cn → Int} : ∀ {cs : List Cn} {k : Nat}, (∀ i c, cs[i]? = some c → f (k + i) c = g (k + i) c) → sumK k cs f = sumK k cs g
  | [], _, _ => rfl
  | c :: cs, k, h => by
    have e : sumK (k + 1) cs f = sumK (k + 1) cs g := sumK_congr fun i d hd => by
      have := h (i + 1) d (by simpa using hd)
      rwa [show k + (i + 1) = k + 1 + i by omega] at this
    unfold sumK
    rw [e, show f k c = g k c from h 0 c rfl]
theorem sumK_mul (a : Int) {f : Nat → Cn → Int} : ∀ {cs : List Cn} {k : Nat}, sumK k cs (fun i c => a * f i c) = a * sumK k cs f
  | [], _ => by simp [sumK]
  | c :: cs, k => by unfold sumK; rw [sumK_mul a, Int.mul_add]
theorem rows_sumK {ss : List Str} {N : Nat} {π : Option Nat} (F : Rr → Int) : ∀ {cs : List Cn} {k : Nat}, ((rowsFrom ss N π k cs).map F).sum = sumK k cs fun i c => ((rowsOf ss N π i c).map F).sum
  | [], _ => rfl
  | c :: cs, k => by unfold rowsFrom sumK; rw [List.map_append, List.sum_append, rows_sumK F]
theorem wth_add {ac : List Str} {w v : Str → Int} {es : List En} : wth ac (fun s => w s + v s) es = wth ac w es + wth ac v es := by
  unfold wth
  rw [← sum_map_add]
  exact sum_congr fun s _ => Int.add_mul ..
theorem wth_mul {ac : List Str} {w : Str → Int} {es : List En} (a : Int) : wth ac (fun s => a * w s) es = a * wth ac w es := by
  unfold wth
  rw [← sum_map_mul]
  exact sum_congr fun s _ => Int.mul_assoc ..
theorem wth_zero {ac : List Str} {es : List En} : wth ac (fun _ => 0) es = 0 := by
  unfold wth
  exact (sum_congr (g := fun _ => 0) fun s _ => by simp).trans (sum_map_zero _)
theorem wth_congr {ac : List Str} {w v : Str → Int} {es : List En} (h : ∀ s ∈ ac, w s = v s) : wth ac w es = wth ac v es := by
  unfold wth
  exact sum_congr fun s hs => by rw [h s hs]
theorem con_add {ac : List Str} {w v : Nat → Str → Int} {k : Kin} {i j : Nat} : con ac (fun i s => w i s + v i s) k i j = con ac w k i j + con ac v k i j := by
  unfold con
  rw [wth_add, wth_add]
  omega
theorem con_mul {ac : List Str} {w : Nat → Str → Int} {k : Kin} {i j : Nat} (a : Int) : con ac (fun i s => a * w i s) k i j = a * con ac w k i j := by
  unfold con
  rw [wth_mul, wth_mul, Int.mul_add]
theorem con_zero {ac : List Str} {k : Kin} {i j : Nat} : con ac (fun _ _ => 0) k i j = 0 := by
  unfold con
  rw [wth_zero, wth_zero]; rfl
theorem con_congr {ac : List Str} {w v : Nat → Str → Int} {k : Kin} {i j : Nat} (h1 : ∀ s ∈ ac, w i s = v i s) (h2 : ∀ s ∈ ac, w j s = v j s) : con ac w k i j = con ac v k i j := by
  unfold con
  rw [wth_congr h1, wth_congr h2]
theorem con_sumK {ac : List Str} {kk : Kin} {i j : Nat} {f : Nat → Cn → Nat → Str → Int} : ∀ {cs : List Cn} {k : Nat}, con ac (fun i s => sumK k cs fun q c => f q c i s) kk i j = sumK k cs fun q c => con ac (f q c) kk i j
  | [], _ => by unfold sumK; exact con_zero
  | c :: cs, k => by
    unfold sumK
    rw [con_add (w := f k c) (v := fun i s => sumK (k + 1) cs fun q c => f q c i s), con_sumK]
theorem con_sumL {ac : List Str} {kk : Kin} {i j : Nat} {α : Type} {f : α → Nat → Str → Int} : ∀ {xs : List α}, con ac (fun i s => (xs.map fun x => f x i s).sum) kk i j = (xs.map fun x => con ac (f x) kk i j).sum
  | [] => by simp only [List.map_nil, List.sum_nil]; exact con_zero
  | x :: xs => by
    simp only [List.map_cons, List.sum_cons]
    rw [con_add (w := f x) (v := fun i s => (xs.map fun x => f x i s).sum), con_sumL]
def fac (ss : List Str) (N : Nat) (mb : Bool) (area : Sx) : Option Nat → Int
  | none => if mb then 0 else 1
  | some g => if mb then (if g = N then 1 else 0) else if bl ss g area then 1 else 0
theorem fac_nn {ss : List Str} {N : Nat} {mb : Bool} {area : Sx} (g : Option Nat) : 0 ≤ fac ss N mb area g := by
  cases g <;> cases mb <;> simp [fac] <;> split <;> omega
def mlt (ss : List Str) (N : Nat) (mb : Bool) (area : Sx) (h : Nat → Int) (s : Int) (r : Rr) : Int := max 0 (h r.1 * r.2.2 * s) * fac ss N mb area r.2.1
def known (ss : List Str) (N : Nat) (mb : Bool) (area : Sx) (h : Nat → Int) (prs : List Cn) (o : Ob) : List Int := 1 :: (rowsFrom ss N o.1 0 prs).map (mlt ss N mb area h o.2)
/-- what a premise with its share gives at a group -/
def ww (ss : List Str) (N : Nat) (π : Option Nat) (mb : Bool) (area : Sx) (c : Cn) (i : Nat) (s : Str) : Int :=
  match c with
  | .sum ts r => fac ss N mb area none * wt ss N π (.sum ts r) none i s
  | .each x ts _ => if i ∈ grp ss N π x then fac ss N mb area (some i) * tms ts s else 0
theorem mx_sum {r : Bool} {h s : Int} (hc : r = true ∨ 0 ≤ h * s) : ((sg r).map fun d => max 0 (h * d * s) * d).sum = h * s := by
  unfold sg
  cases r with
  | true =>
    simp
    have e : -h * s = -(h * s) := Int.neg_mul ..
    rw [e]
    omega
  | false =>
    rcases hc with hc | hc
    · cases hc
    · simp
      omega
theorem row_known {ss ac : List Str} {N : Nat} {π : Option Nat} {mb : Bool} {area : Sx} {h : Nat → Int} {s : Int} {k : Nat} {c : Cn} {prs : List Cn} {kk : Kin} {i j : Nat} (hk : prs[k]? = some c) (hc : c.rel = true ∨ 0 ≤ h k * s) :
    ((rowsOf ss N π k c).map fun r => mlt ss N mb area h s r * rowC ss ac N π prs r kk i j).sum = h k * s * con ac (ww ss N π mb area c) kk i j := by
  have e1 : ((rowsOf ss N π k c).map fun r => mlt ss N mb area h s r * rowC ss ac N π prs r kk i j).sum = ((grpsOf ss N π c).map fun g => h k * s * (fac ss N mb area g * con ac (wt ss N π c g) kk i j)).sum := by
    unfold rowsOf
    generalize grpsOf ss N π c = gs
    induction gs with
    | nil => rfl
    | cons g gs ih =>
      rw [List.flatMap_cons, List.map_append, List.sum_append, ih, List.map_cons, List.sum_cons]
      congr 1
      rw [List.map_map, ← mx_sum hc, Int.mul_comm, ← sum_map_mul]
      refine sum_congr fun d _ => ?_
      simp only [Function.comp, mlt, rowC]
      rw [List.getD_eq_getElem?_getD, hk]
      simp only [Option.getD_some]
      rw [Int.mul_assoc, Int.mul_comm (fac ss N mb area g), Int.mul_comm (fac ss N mb area g) , Int.mul_assoc d, Int.mul_left_comm, Int.mul_comm d]
      ac_rfl
  rw [e1, sum_map_mul]
  congr 1
  cases c with
  | sum ts r =>
    simp only [grpsOf, List.map_cons, List.map_nil, List.sum_cons, List.sum_nil, Int.add_zero]
    exact (con_mul _).symm
  | each x ts r =>
    simp only [grpsOf, List.map_map, Function.comp_def]
    have e2 : ∀ g ∈ grp ss N π x, fac ss N mb area (some g) * con ac (wt ss N π (.each x ts r) (some g)) kk i j = con ac (fun i s => fac ss N mb area (some g) * wt ss N π (.each x ts r) (some g) i s) kk i j := fun g _ => (con_mul _).symm
    rw [sum_congr e2, ← con_sumL]
    have nd : (grp ss N π x).Nodup := List.nodup_range.sublist List.filter_sublist
    have pt : ∀ i s, ((grp ss N π x).map fun g => fac ss N mb area (some g) * wt ss N π (.each x ts r) (some g) i s).sum = ww ss N π mb area (.each x ts r) i s := fun i s => by
      have e3 : ∀ g ∈ grp ss N π x, fac ss N mb area (some g) * wt ss N π (.each x ts r) (some g) i s = if g = i then fac ss N mb area (some i) * tms ts s else 0 := fun g _ => by
        unfold wt tmc
        dsimp only
        by_cases z : g = i
        · subst z; rw [if_pos rfl, if_pos rfl]
        · rw [if_neg (fun w => z (by injection w with w; exact w.symm)), if_neg z]
          simp [tms]
      rw [sum_congr e3]
      unfold ww
      dsimp only
      by_cases hm : i ∈ grp ss N π x
      · rw [if_pos hm]
        clear e3 e2 e1
        generalize grp ss N π x = gs at nd hm
        induction gs with
        | nil => cases hm
        | cons g gs ih =>
          rw [List.nodup_cons] at nd
          rw [List.map_cons, List.sum_cons]
          by_cases z : g = i
          · subst z
            rw [if_pos rfl, sum_congr (g := fun _ => 0) fun y hy => by rw [if_neg fun w : y = g => nd.1 (by rw [← w]; exact hy)], sum_map_zero]
            omega
          · rw [if_neg z]
            rcases List.mem_cons.mp hm with w | w
            · exact absurd w.symm z
            · rw [ih nd.2 w]; omega
      · rw [if_neg hm, sum_congr (g := fun _ => 0) fun y hy => by rw [if_neg fun w : y = i => hm (by rw [← w]; exact hy)], sum_map_zero]
    refine con_congr (fun s _ => ?_) (fun s _ => ?_)
    · exact pt i s
    · exact pt j s
theorem known_valid {ss ac : List Str} {N : Nat} {ks : List Kin} {prs : List Cn} {c : Cn} {mb : Bool} {area : Sx} {h : Nat → Int} (o : Ob)
    (hs : ∀ i d, prs[i]? = some d → d.rel = true ∨ 0 ≤ h i * o.2) (m : Int) (hm : 1 ≤ m)
    (hw : ∀ i s, i < gn N o.1 → s ∈ ac → wt ss N o.1 c (some N) i s = sumK 0 prs fun q d => h q * ww ss N o.1 mb area d i s) : validM ss ac N ks prs c o ((known ss N mb area h prs o).map fun x => m * x) := by
  refine ⟨m * 1, ((rowsFrom ss N o.1 0 prs).map (mlt ss N mb area h o.2)).map fun x => m * x, rfl, by simp, by omega, fun y hy => ?_, fun k _ i j hu => ?_⟩
  · obtain ⟨z, hz, rfl⟩ := List.mem_map.mp hy
    obtain ⟨r, _, rfl⟩ := List.mem_map.mp hz
    exact Int.mul_nonneg (by omega) (Int.mul_nonneg (Int.le_max_left ..) (fac_nn _))
  · have e0 : ((((rowsFrom ss N o.1 0 prs).map (mlt ss N mb area h o.2)).map fun x => m * x).zip (rowsFrom ss N o.1 0 prs)).map (fun z => z.1 * rowC ss ac N o.1 prs z.2 k i j) = (rowsFrom ss N o.1 0 prs).map fun r => m * (mlt ss N mb area h o.2 r * rowC ss ac N o.1 prs r k i j) := by
      generalize rowsFrom ss N o.1 0 prs = rs
      induction rs with
      | nil => rfl
      | cons r rs ih => simp only [List.map_cons, List.zip_cons_cons, ih, Int.mul_assoc]
    rw [e0, sum_map_mul, rows_sumK]
    have e1 : sumK 0 prs (fun q d => ((rowsOf ss N o.1 q d).map fun r => mlt ss N mb area h o.2 r * rowC ss ac N o.1 prs r k i j).sum) = o.2 * con ac (wt ss N o.1 c (some N)) k i j := by
      rw [con_congr (v := fun i s => sumK 0 prs fun q d => h q * ww ss N o.1 mb area d i s) (fun s hs => hw i s hu.1 hs) (fun s hs => hw j s hu.2.1 hs)]
      rw [con_sumK (f := fun q d i s => h q * ww ss N o.1 mb area d i s), ← sumK_mul]
      refine sumK_congr fun q d hd => ?_
      rw [Nat.zero_add, row_known hd (hs q d hd), con_mul]
      rw [Int.mul_comm (h q), Int.mul_assoc]
    rw [e1]
    show 0 ≤ m * 1 * (o.2 * con ac (wt ss N o.1 c (some N)) k i j) - m * (o.2 * con ac (wt ss N o.1 c (some N)) k i j)
    rw [Int.mul_one]
    omega
end Mir
/-! The claim that is made of shares of its premises, and its certificate. -/
namespace Mir
open PySem L2
abbrev Ts := Int × Str × Sx
abbrev Te := Int × Str
def tmsS (ss : List Str) (p : Nat) (ts : List Ts) (s : Str) : Int := tms ((ts.filter fun t => bl ss p t.2.2).map fun t => (t.1, t.2.1)) s
def shT (h : Int) (area : Sx) : Cn → List Ts
  | .sum ts _ => ts.map fun t => (h * t.1, t.2.1, t.2.2)
  | .each x ts _ => ts.map fun t => (h * t.1, t.2, .and x area)
def shE (h : Int) : Cn → List Te
  | .sum _ _ => []
  | .each _ ts _ => ts.map fun t => (h * t.1, t.2)
def shv (ss : List Str) (area : Sx) (p : Nat) (d : Cn) (s : Str) : Int := match d with
  | .sum ts _ => tmsS ss p ts s
  | .each x ts _ => if bl ss p x = true ∧ bl ss p area = true then tms ts s else 0
def she (d : Cn) (s : Str) : Int := match d with
  | .sum _ _ => 0
  | .each _ ts _ => tms ts s
theorem tms_app {xs ys : List Te} {s : Str} : tms (xs ++ ys) s = tms xs s + tms ys s := by
  unfold tms
  rw [List.map_append, List.sum_append]
theorem tms_mul {h : Int} {xs : List Te} {s : Str} : tms (xs.map fun t => (h * t.1, t.2)) s = h * tms xs s := by
  unfold tms
  rw [List.map_map, ← sum_map_mul]
  refine sum_congr fun t _ => ?_
  simp only [Function.comp]
  split <;> simp
theorem tmsS_app {ss : List Str} {p : Nat} {xs ys : List Ts} {s : Str} : tmsS ss p (xs ++ ys) s = tmsS ss p xs s + tmsS ss p ys s := by
  unfold tmsS
  rw [List.filter_append, List.map_append, tms_app]
theorem tmsS_shT {ss : List Str} {p : Nat} {h : Int} {area : Sx} {d : Cn} {s : Str} : tmsS ss p (shT h area d) s = h * shv ss area p d s := by
  cases d with
  | sum ts r =>
    unfold shT shv tmsS
    dsimp only
    rw [← tms_mul, List.filter_map, List.map_map, List.map_map]
    rfl
  | each x ts r =>
    unfold shT shv tmsS
    dsimp only
    by_cases z : bl ss p x = true ∧ bl ss p area = true
    · rw [if_pos z, ← tms_mul, List.filter_map, List.map_map]
      have : ts.filter ((fun t : Ts => bl ss p t.2.2) ∘ fun t : Te => ((h * t.1, t.2, Sx.and x area) : Ts)) = ts := by
        apply List.filter_eq_self.mpr
        intro t _
        show (bl ss p x && bl ss p area) = true
        rw [z.1, z.2]; rfl
      rw [this]
      rfl
    · rw [if_neg z, List.filter_map]
      have : ts.filter ((fun t : Ts => bl ss p t.2.2) ∘ fun t : Te => ((h * t.1, t.2, Sx.and x area) : Ts)) = [] := by
        apply List.filter_eq_nil_iff.mpr
        intro t _ hh
        have hh' : (bl ss p x && bl ss p area) = true := hh
        rw [Bool.and_eq_true] at hh'
        exact z hh'
      rw [this]
      simp [tms]
theorem tms_shE {h : Int} {d : Cn} {s : Str} : tms (shE h d) s = h * she d s := by
  cases d with
  | sum ts r => simp [shE, she, tms]
  | each x ts r => exact tms_mul
theorem sumK_snoc {f : Nat → Cn → Int} {c : Cn} : ∀ {cs : List Cn} {k : Nat}, sumK k (cs ++ [c]) f = sumK k cs f + f (k + cs.length) c
  | [], k => by simp [sumK]
  | d :: cs, k => by
    rw [List.cons_append, sumK, sumK, sumK_snoc, List.length_cons, show k + 1 + cs.length = k + (cs.length + 1) by omega]
    omega
theorem gD_app {hs : List Int} {h : Int} {q : Nat} : (hs ++ [h]).getD q 0 = if q = hs.length then h else hs.getD q 0 := by
  rw [List.getD_eq_getElem?_getD, List.getD_eq_getElem?_getD]
  by_cases z : q < hs.length
  · rw [List.getElem?_append_left z, if_neg (by omega)]
  · rw [List.getElem?_append_right (by omega)]
    by_cases w : q = hs.length
    · subst w; simp
    · rw [if_neg w, List.getElem?_eq_none (by simp; omega), List.getElem?_eq_none (by omega)]
theorem gD_out {hs : List Int} {q : Nat} (h : hs.length ≤ q) : hs.getD q 0 = 0 := by
  rw [List.getD_eq_getElem?_getD, List.getElem?_eq_none h]; rfl
structure Won (ss : List Str) (ps : List Cn) (area : Sx) (mb : Bool) (i : Nat) (hs : List Int) (lv : Bool) (inner : Sx) (tS : List Ts) (tE : List Te) : Prop where
  len : hs.length = i
  neg : ∀ q d, ps[q]? = some d → hs.getD q 0 < 0 → d.rel = true
  lev : lv = true → ∀ q d, ps[q]? = some d → hs.getD q 0 ≠ 0 → d.rel = true
  mem : mb = true → ∀ p, bl ss p inner = true → ∀ q d, ps[q]? = some d → hs.getD q 0 ≠ 0 → ∃ x ts r, d = .each x ts r ∧ bl ss p x = true
  eS : mb = false → ∀ p s, tmsS ss p tS s = sumK 0 (ps.take i) fun q d => hs.getD q 0 * shv ss area p d s
  eE : mb = true → ∀ s, tms tE s = sumK 0 (ps.take i) fun q d => hs.getD q 0 * she d s
theorem won0 {ss : List Str} {ps : List Cn} {area : Sx} {mb : Bool} {inner : Sx} : Won ss ps area mb 0 [] true inner [] [] :=
  ⟨rfl, fun q d _ h => by simp at h, fun _ q d _ h => by simp at h, fun _ p _ q d _ h => by simp at h, fun _ p s => by simp [tmsS, tms, sumK], fun _ s => by simp [tms, sumK]⟩
def arX : Cn → Sx
  | .sum _ _ => .all
  | .each x _ _ => x
theorem won_zero {ss : List Str} {ps : List Cn} {area : Sx} {mb : Bool} {i : Nat} {hs : List Int} {lv : Bool} {inner : Sx} {tS : List Ts} {tE : List Te} (W : Won ss ps area mb i hs lv inner tS tE) {d : Cn} (hd : ps[i]? = some d) : Won ss ps area mb (i + 1) (hs ++ [0]) lv inner tS tE := by
  have e0 : ∀ q, (hs ++ [0]).getD q 0 = hs.getD q 0 := fun q => by
    rw [gD_app]
    split
    · rename_i h; rw [gD_out (by omega)]
    · rfl
  have hi := (List.getElem?_eq_some_iff.mp hd).1
  have et : ps.take (i + 1) = ps.take i ++ [d] := by rw [List.take_add_one, hd]; rfl
  have hl : 0 + (ps.take i).length = i := by rw [List.length_take]; omega
  refine ⟨by simp [W.len], fun q c => by rw [e0]; exact W.neg q c, fun h q c => by rw [e0]; exact W.lev h q c, fun h p hp q c => by rw [e0]; exact W.mem h p hp q c, fun h p s => ?_, fun h s => ?_⟩
  · rw [et, sumK_snoc, hl, e0, gD_out (by rw [W.len]; omega), Int.zero_mul, Int.add_zero]
    simp only [e0]
    exact W.eS h p s
  · rw [et, sumK_snoc, hl, e0, gD_out (by rw [W.len]; omega), Int.zero_mul, Int.add_zero]
    simp only [e0]
    exact W.eE h s
theorem won_step {ss : List Str} {ps : List Cn} {area : Sx} {mb : Bool} {i : Nat} {hs : List Int} {lv : Bool} {inner : Sx} {tS : List Ts} {tE : List Te} (W : Won ss ps area mb i hs lv inner tS tE) {d : Cn} (hd : ps[i]? = some d) {h : Int} (hneg : h < 0 → d.rel = true) (hm : mb = true → ∃ x ts r, d = .each x ts r) :
    Won ss ps area mb (i + 1) (hs ++ [h]) (lv && d.rel) (.and inner (arX d)) (tS ++ shT h area d) (tE ++ shE h d) := by
  have hi := (List.getElem?_eq_some_iff.mp hd).1
  have et : ps.take (i + 1) = ps.take i ++ [d] := by rw [List.take_add_one, hd]; rfl
  have hl : 0 + (ps.take i).length = i := by rw [List.length_take]; omega
  have el : hs.length = i := W.len
  have e1 : ∀ q, q ≠ i → (hs ++ [h]).getD q 0 = hs.getD q 0 := fun q hq => by rw [gD_app, if_neg (by omega)]
  have e2 : (hs ++ [h]).getD i 0 = h := by rw [gD_app, if_pos el.symm]
  have ec : ∀ (g : Cn → Int), (sumK 0 (ps.take i) fun q d => (hs ++ [h]).getD q 0 * g d) = sumK 0 (ps.take i) fun q d => hs.getD q 0 * g d := fun g =>
    sumK_congr fun q c hc => by
      have := (List.getElem?_eq_some_iff.mp hc).1
      rw [List.length_take] at this
      rw [e1 _ (by omega)]
  refine ⟨by simp [W.len], fun q c hc hq => ?_, fun hlv q c hc hq => ?_, fun hmb p hp q c hc hq => ?_, fun hmb p s => ?_, fun hmb s => ?_⟩
  · by_cases z : q = i
    · subst z
      rw [hd] at hc; cases hc
      rw [e2] at hq
      exact hneg hq
    · rw [e1 q z] at hq
      exact W.neg q c hc hq
  · rw [Bool.and_eq_true] at hlv
    by_cases z : q = i
    · subst z
      rw [hd] at hc; cases hc
      exact hlv.2
    · rw [e1 q z] at hq
      exact W.lev hlv.1 q c hc hq
  · have hp' : (bl ss p inner && bl ss p (arX d)) = true := hp
    rw [Bool.and_eq_true] at hp'
    by_cases z : q = i
    · subst z
      rw [hd] at hc; cases hc
      obtain ⟨x, ts, r, rfl⟩ := hm hmb
      exact ⟨x, ts, r, rfl, hp'.2⟩
    · rw [e1 q z] at hq
      exact W.mem hmb p hp'.1 q c hc hq
  · rw [et, sumK_snoc, hl, e2, tmsS_app, tmsS_shT, ec fun d => shv ss area p d s, W.eS hmb p s]
  · rw [et, sumK_snoc, hl, e2, tms_app, tms_shE, ec fun d => she d s, W.eE hmb s]
/-- the certificate of the shares is valid -/
theorem won_valid {ss ac : List Str} {N : Nat} {ks : List Kin} {ps : List Cn} {area : Sx} {mb : Bool} {hs : List Int} {lv : Bool} {inner : Sx} {tS : List Ts} {tE : List Te} (W : Won ss ps area mb ps.length hs lv inner tS tE) {r : Bool} (hr : r = true → lv = true) {m : Int} (hm : 1 ≤ m) {c : Cn}
    (hc : (mb = true ∧ c = .each inner tE r) ∨ (mb = false ∧ c = .sum tS r)) : validC ss ac N ks ps c ((obl ss N c).map fun o => (known ss N mb area (fun q => hs.getD q 0) ps o).map fun x => m * x) := by
  refine ⟨by simp, fun i o l ho hl => ?_⟩
  rw [List.getElem?_map, ho] at hl
  cases hl
  have hrel : c.rel = r := by rcases hc with ⟨_, rfl⟩ | ⟨_, rfl⟩ <;> rfl
  obtain ⟨π, hπ, ho2⟩ := List.mem_flatMap.mp (List.mem_of_getElem? ho)
  obtain ⟨s, hs2, rfl⟩ := List.mem_map.mp ho2
  refine known_valid (π, s) (fun q d hd => ?_) m hm (fun g a hg ha => ?_)
  · show d.rel = true ∨ 0 ≤ hs.getD q 0 * s
    rcases sg_mem hs2 with rfl | ⟨rfl, e⟩
    · by_cases z : hs.getD q 0 < 0
      · exact .inl (W.neg q d hd z)
      · exact .inr (by omega)
    · by_cases z : hs.getD q 0 = 0
      · exact .inr (by rw [z]; decide)
      · rw [hrel] at e
        exact .inl (W.lev (hr e) q d hd z)
  · show wt ss N π c (some N) g a = sumK 0 ps fun q d => hs.getD q 0 * ww ss N π mb area d g a
    have et : ps.take ps.length = ps := List.take_length
    rcases hc with ⟨rfl, rfl⟩ | ⟨rfl, rfl⟩
    · obtain ⟨p, hp, rfl⟩ := List.mem_map.mp hπ
      obtain ⟨hp1, hp2⟩ := List.mem_filter.mp hp
      have hpN := List.mem_range.mp hp1
      by_cases z : g = N
      · subst z
        have e1 : wt ss g (some p) (.each inner tE r) (some g) g a = tms tE a := by unfold wt tmc; simp
        have e2 := W.eE rfl a
        rw [et] at e2
        rw [e1, e2]
        refine sumK_congr fun q d hd => ?_
        rw [Nat.zero_add]
        by_cases w : hs.getD q 0 = 0
        · rw [w]; simp
        · obtain ⟨x, ts, r', rfl, hx⟩ := W.mem rfl p hp2 q d hd w
          congr 1
          unfold she ww fac
          dsimp only
          have : g ∈ grp ss g (some p) x := List.mem_filter.mpr ⟨List.mem_range.mpr (by show g < g + 1; omega), by
            show bl ss (gp g (some p) g) x = true
            unfold gp
            rw [if_neg (by omega)]
            exact hx⟩
          rw [if_pos this]
          simp
      · have e1 : wt ss N (some p) (.each inner tE r) (some N) g a = 0 := by
          unfold wt tmc
          dsimp only
          rw [if_neg (by intro h; injection h with h; exact z h)]
          simp [tms]
        rw [e1]
        have : (sumK 0 ps fun q d => hs.getD q 0 * ww ss N (some p) true area d g a) = sumK 0 ps fun q d => 0 * (fun _ _ => (0 : Int)) q d := sumK_congr fun q d hd => by
          have : ww ss N (some p) true area d g a = 0 := by
            cases d with
            | sum ts r' => simp [ww, fac]
            | each x ts r' => simp [ww, fac, z]
          rw [this]; simp
        rw [this, sumK_mul]; simp
    · have hπ' : π = none := by simpa [foc] using hπ
      subst hπ'
      have hgN : g < N := hg
      have hgp : gp N none g = g := by unfold gp; rw [if_pos hgN]
      have e1 : wt ss N none (.sum tS r) (some N) g a = tmsS ss g tS a := by unfold wt tmc tmsS; rw [hgp]
      have e2 := W.eS rfl g a
      rw [et] at e2
      rw [e1, e2]
      refine sumK_congr fun q d hd => ?_
      congr 1
      cases d with
      | sum ts r' =>
        show tmsS ss g ts a = fac ss N false area none * wt ss N none (.sum ts r') none g a
        have : wt ss N none (.sum ts r') none g a = tmsS ss g ts a := by unfold wt tmc tmsS; rw [hgp]
        rw [this]
        simp [fac]
      | each x ts r' =>
        have hmem : g ∈ grp ss N none x ↔ bl ss g x = true := by
          unfold grp
          rw [List.mem_filter, List.mem_range, hgp]
          exact ⟨fun h => h.2, fun h => ⟨hgN, h⟩⟩
        unfold shv ww fac
        dsimp only
        by_cases z : bl ss g x = true
        · rw [if_pos (hmem.mpr z)]
          by_cases w : bl ss g area = true
          · simp [z, w]
          · simp [z, w]
        · rw [if_neg (fun h => z (hmem.mp h)), if_neg (fun h => z h.1)]
theorem won_none {ss ac : List Str} {N : Nat} {ks : List Kin} {ps : List Cn} {ts : List Te} {r : Bool} {F : Ob → List Int} : validC ss ac N ks ps (.each .none ts r) ((obl ss N (.each .none ts r)).map F) := by
  have h0 : obl ss N (.each .none ts r) = [] := by
    unfold obl
    have : foc ss N (.each .none ts r) = [] := by
      show ((List.range N).filter fun q => bl ss q .none).map some = []
      rw [List.filter_eq_nil_iff.mpr fun q _ h => by cases h]
      rfl
    rw [this]; rfl
  refine ⟨by simp, fun i o l h => ?_⟩
  rw [h0] at h
  cases h
theorem won_empty {ss : List Str} {ps : List Cn} {area : Sx} {i : Nat} {hs : List Int} {lv : Bool} {inner : Sx} {tE : List Te} (W : Won ss ps area false i hs lv inner [] tE) {z : Int} {a : Str} {x : Sx} : Won ss ps area false i hs lv inner [(z, a, .and .none x)] tE :=
  ⟨W.len, W.neg, W.lev, (fun h => by cases h), (fun h p s => by rw [← W.eS h p s]; simp [tmsS, bl, Sx.ev]), (fun h => by cases h)⟩
end Mir
namespace Mir
open PySem L2
abbrev FUELW : Nat := 1000
variable [Hs]
def m_profile_count_1 : MS := (mAsg (mOp mulD (.e (mC (.int 2))) (.e (mVar 1))) (gN 1))
def m_profile_count_B : MS := (mSeq (mAsg (mC (.int 1)) (gN 1))
    (mSeq (mFor (itSeq (mOp ixD (.e (mVar 0)) (.e (mC (.int 0))))) (gN 2) m_profile_count_1)
    (mRet (mVar 1))))
def m_profile_count : List D → Option D := runFn0 3 1 m_profile_count_B
def m_profile_of_1 : MS := (mIfS (mTest (mOp (inD false) (.e (mVar 4)) (.e (mVar 1)))) (mAsg (mOp addD (.e (mVar 2)) (.e (mOp shlD (.e (mC (.int 1))) (.e (mVar 3))))) (gN 2)) mPass)
def m_profile_of_B : MS := (mSeq (mAsg (mC (.int 0)) (gN 2))
    (mSeq (mFor (itEnum (mOp ixD (.e (mVar 0)) (.e (mC (.int 0))))) (gT 2 (gCons' (gN 3) (gCons' (gN 4) gNil'))) m_profile_of_1)
    (mRet (mVar 2))))
def m_profile_of : List D → Option D := runFn0 5 2 m_profile_of_B
abbrev FUEL_belongs : Nat := 40
def m_belongs_B (mm : List D → Option D) : MS := (mSeq (mAsg (mOp ixD (.e (mVar 2)) (.e (mC (.int 0)))) (gN 3))
    (mSeq (mIfS (mTest (mOp eqD (.e (mVar 3)) (.e (mC (.str "all"))))) (mRet (mC (.bl true))) mPass)
    (mSeq (mIfS (mTest (mOp eqD (.e (mVar 3)) (.e (mC (.str "none"))))) (mRet (mC (.bl false))) mPass)
    (mSeq (mIfS (mTest (mOp eqD (.e (mVar 3)) (.e (mC (.str "sector"))))) (mRet (mOp eqD (.e (mOp andD (.e (mOp shrD (.e (mVar 1)) (.e (mIdx (tupOnly (mOp ixD (.e (mVar 0)) (.e (mC (.int 0))))) (.e (mOp ixD (.e (mVar 2)) (.e (mC (.int 1))))))))) (.e (mC (.int 1))))) (.e (mC (.int 1))))) mPass)
    (mSeq (mIfS (mTest (mOp eqD (.e (mVar 3)) (.e (mC (.str "not"))))) (mRet (mBool (mNot (mTest (mCall0 mm [(.e (mVar 0)), (.e (mVar 1)), (.e (mOp ixD (.e (mVar 2)) (.e (mC (.int 1)))))]))))) mPass)
    (mSeq (mIfS (mTest (mOp eqD (.e (mVar 3)) (.e (mC (.str "and"))))) (mRet (mIf (mTest (mCall0 mm [(.e (mVar 0)), (.e (mVar 1)), (.e (mOp ixD (.e (mVar 2)) (.e (mC (.int 1)))))])) (mCall0 mm [(.e (mVar 0)), (.e (mVar 1)), (.e (mOp ixD (.e (mVar 2)) (.e (mC (.int 2)))))]) (mC (.bl false)))) mPass)
    (mRet (mIf (mTest (mCall0 mm [(.e (mVar 0)), (.e (mVar 1)), (.e (mOp ixD (.e (mVar 2)) (.e (mC (.int 1)))))])) (mC (.bl true)) (mCall0 mm [(.e (mVar 0)), (.e (mVar 1)), (.e (mOp ixD (.e (mVar 2)) (.e (mC (.int 2)))))])))))))))
def m_belongs : Nat → List D → Option D
  | 0 => fun _ => none
  | n + 1 => runFn0 4 3 (m_belongs_B (m_belongs n))
def m_entry_of_1 : MS := (mIfS (mTest (mOp eqD (.e (mOp ixD (.e (mVar 2)) (.e (mC (.int 0))))) (.e (mVar 1)))) (mRet (mOp ixD (.e (mVar 2)) (.e (mC (.int 1))))) mPass)
def m_entry_of_B : MS := (mSeq (mFor (itSeq (mVar 0)) (gN 2) m_entry_of_1)
    (mRet (mC (.int 0))))
def m_entry_of : List D → Option D := runFn0 3 2 m_entry_of_B
def m_terms_of_B : MS := (mSeq (mIfS (mTest (mOp eqD (.e (mOp ixD (.e (mVar 0)) (.e (mC (.int 0))))) (.e (mC (.str "sum"))))) (mRet (mOp ixD (.e (mVar 0)) (.e (mC (.int 1))))) mPass)
    (mRet (mOp ixD (.e (mVar 0)) (.e (mC (.int 2))))))
def m_terms_of : List D → Option D := runFn0 1 1 m_terms_of_B
def m_added_B : MS := (mRet (mLc (itZip (mVar 0) (mVar 2)) (gT 2 (gCons' (gN 3) (gCons' (gN 4) gNil'))) mYes (mOp addD (.e (mVar 3)) (.e (mOp mulD (.e (mVar 1)) (.e (mVar 4))))) [3, 4]))
def m_added : List D → Option D := runFn0 5 3 m_added_B
def m_member_value_B : MS := (mRet (mCB sumF [(.e (mLc (itSeq (mVar 2)) (gT 2 (gCons' (gN 3) (gCons' (gN 4) gNil'))) mYes (mOp mulD (.e (mVar 3)) (.e (mOp ixD (.e (mVar 1)) (.e (mIdx (tupOnly (mOp ixD (.e (mVar 0)) (.e (mC (.int 1))))) (.e (mVar 4))))))) [3, 4]))]))
def m_member_value : List D → Option D := runFn0 5 3 m_member_value_B
def m__law_tape_1 : MS := (mAsg (mOp modD (.e (mCB intF [(.e (mOp addD (.e (mOp mulD (.e (mVar 1)) (.e (mC (.int 31))))) (.e (mCB absF [(.e (mCB intF [(.e (mVar 2))]))]))))])) (.e (mC (.int 2147483647)))) (gN 1))
def m__law_tape_B : MS := (mSeq (mAsg (mC (.int 7)) (gN 1))
    (mSeq (mFor (itSeq (mVar 0)) (gN 2) m__law_tape_1)
    (mRetO (mDisp .lst [(.e (mCB listFA [(.e (mVar 0))])), (.e (mC (.int 0))), (.e (mC (.int 0))), (.e (mVar 1))]))))
def m__law_tape : List D → Option D := runFnN 3 1 m__law_tape_B
def m__law_draw_B : MS := (mSeq (mIfS (mTest (mOp eqD (.e (mOp ixD (.s 0) (.e (mC (.int 2))))) (.e (mC (.int 0))))) (mSeq (mAsg (mOp ixD (.s 0) (.e (mC (.int 1)))) (gN 2))
    (mSeq (mAsg (mC (.int 0)) (gN 3))
    (mSeq (mIfS (mTest (mOp ltD (.e (mVar 2)) (.e (mCB lenF [(.e (mOp ixD (.s 0) (.e (mC (.int 0)))))])))) (mAsg (mCB absF [(.e (mCB intF [(.e (mOp ixD (.e (mOp ixD (.s 0) (.e (mC (.int 0))))) (.e (mVar 2))))]))]) (gN 3)) (mSeq (mSet 0 (mC (.int 3)) (mOp modD (.e (mCB intF [(.e (mOp addD (.e (mOp addD (.e (mOp mulD (.e (mOp ixD (.s 0) (.e (mC (.int 3))))) (.e (mC (.int 48271))))) (.e (mVar 2)))) (.e (mC (.int 1)))))])) (.e (mC (.int 2147483647)))))
    (mAsg (mOp ixD (.s 0) (.e (mC (.int 3)))) (gN 3))))
    (mSeq (mSet 0 (mC (.int 1)) (mOp addD (.e (mVar 2)) (.e (mC (.int 1)))))
    (mSeq (mIfS (mTest (mOp ltD (.e (mVar 3)) (.e (mOp powD (.e (mC (.int 10))) (.e (mC (.int 18))))))) (mSeq (mAsg (mOp modD (.e (mCB intF [(.e (mOp addD (.e (mOp addD (.e (mOp mulD (.e (mVar 3)) (.e (mC (.int 48271))))) (.e (mOp mulD (.e (mVar 2)) (.e (mC (.int 69621))))))) (.e (mC (.int 5)))))])) (.e (mC (.int 2147483647)))) (gN 3))
    (mSeq (mAsg (mOp modD (.e (mCB intF [(.e (mOp mulD (.e (mVar 3)) (.e (mC (.int 69621)))))])) (.e (mC (.int 2147483629)))) (gN 3))
    (mRet (mOp modD (.e (mCB intF [(.e (mVar 3))])) (.e (mCB max2F [(.e (mVar 1)), (.e (mC (.int 1)))])))))) mPass)
    (mSet 0 (mC (.int 2)) (mVar 3))))))) mPass)
    (mSeq (mAsg (mOp ixD (.s 0) (.e (mC (.int 2)))) (gN 3))
    (mSeq (mSet 0 (mC (.int 2)) (mOp fdivD (.e (mVar 3)) (.e (mCB max2F [(.e (mVar 1)), (.e (mC (.int 2)))]))))
    (mRet (mOp modD (.e (mCB intF [(.e (mVar 3))])) (.e (mCB max2F [(.e (mVar 1)), (.e (mC (.int 1)))])))))))
def m__law_draw : List D → Option (D × D) := runFn1 4 1 m__law_draw_B
abbrev FUEL__law_same : Nat := 40
def m__law_same_1 (mm : List D → Option D) : MS := (mIfS (mNot (mTru (.e (mCall0 mm [(.e (mOp ixD (.e (mVar 0)) (.e (mVar 2)))), (.e (mOp ixD (.e (mVar 1)) (.e (mVar 2))))])))) (mRet (mC (.bl false))) mPass)
def m__law_same_B (mm : List D → Option D) : MS := (mSeq (mIfS (mTest (mOp isND (.e (mVar 1)) (.e (mC .non)))) (mRet (mOp isND (.e (mVar 0)) (.e (mC .non)))) mPass)
    (mSeq (mIfS (mTru (.e (mCB isiF [(.e (mVar 1)), (.e (mC (.ty "tuple")))]))) (mSeq (mIfS (mOr (mNot (mTru (.e (mCB isiF [(.e (mVar 0)), (.e (mC (.ty "tuple")))])))) (mTest (mOp neD (.e (mCB lenF [(.e (mVar 0))])) (.e (mCB lenF [(.e (mVar 1))]))))) (mRet (mC (.bl false))) mPass)
    (mSeq (mFor (itRng1 (.e (mCB lenF [(.e (mVar 1))]))) (gN 2) (m__law_same_1 mm))
    (mRet (mC (.bl true))))) mPass)
    (mSeq (mIfS (mTru (.e (mCB isiF [(.e (mVar 1)), (.e (mC (.ty "bool")))]))) (mRet (mIf (mTest (mCB isiF [(.e (mVar 0)), (.e (mC (.ty "bool")))])) (mOp eqD (.e (mVar 0)) (.e (mVar 1))) (mC (.bl false)))) mPass)
    (mSeq (mIfS (mTru (.e (mCB isiF [(.e (mVar 1)), (.e (mC (.ty "str")))]))) (mRet (mIf (mTest (mCB isiF [(.e (mVar 0)), (.e (mC (.ty "str")))])) (mOp eqD (.e (mVar 0)) (.e (mVar 1))) (mC (.bl false)))) mPass)
    (mRet (mIf (mTest (mCB isiF [(.e (mVar 0)), (.e (mC (.ty "int")))])) (mIf (mTest (mBool (mNot (mTest (mCB isiF [(.e (mVar 0)), (.e (mC (.ty "bool")))]))))) (mOp eqD (.e (mVar 0)) (.e (mVar 1))) (mC (.bl false))) (mC (.bl false))))))))
def m__law_same : Nat → List D → Option D
  | 0 => fun _ => none
  | n + 1 => runFn0 3 2 (m__law_same_B (m__law_same n))
def m__law_letters_B : MS := (mRet (mC (.str "abcdefghijklmnopqrstuvwxyz")))
def m__law_letters : List D → Option D := runFn0 0 0 m__law_letters_B
def m__law_reserved_B : MS := (mSeq (mAsg (mC (.str "sectors accounts type to if then each of not and or all none assume claim drop profiles distinguish")) (gN 0))
    (mSeq (mAsg (mOp addD (.e (mVar 0)) (.e (mC (.str " conserved obligations evaluate decide bound by statuses core verdict refutes minimize types")))) (gN 0))
    (mRet (mStrM splitF (mVar 0) [(.e (mC (.str " ")))]))))
def m__law_reserved : List D → Option D := runFn0 1 0 m__law_reserved_B
def m__law_sets_1 : MS := (mAsg (mOp addD (.e (mVar 1)) (.e (mLc (itSeq (mVar 1)) (gN 3) mYes (mOp addD (.e (mVar 3)) (.e (mDisp .tup [(.e (mVar 2))]))) [3]))) (gN 1))
def m__law_sets_B : MS := (mSeq (mAsg (mDisp .lst [(.e (mDisp .tup []))]) (gN 1))
    (mSeq (mFor (itSeq (mVar 0)) (gN 2) m__law_sets_1)
    (mRet (mVar 1))))
def m__law_sets : List D → Option D := runFn0 4 1 m__law_sets_B
abbrev FUEL__law_member : Nat := 40
def m__law_member_B (mm : List D → Option D) : MS := (mSeq (mIfS (mTest (mOp eqD (.e (mOp ixD (.e (mVar 0)) (.e (mC (.int 0))))) (.e (mC (.str "sector"))))) (mRet (mOp (inD false) (.e (mOp ixD (.e (mVar 0)) (.e (mC (.int 1))))) (.e (mVar 1)))) mPass)
    (mSeq (mIfS (mTest (mOp eqD (.e (mOp ixD (.e (mVar 0)) (.e (mC (.int 0))))) (.e (mC (.str "not"))))) (mRet (mBool (mNot (mTest (mCall0 mm [(.e (mOp ixD (.e (mVar 0)) (.e (mC (.int 1))))), (.e (mVar 1))]))))) mPass)
    (mSeq (mIfS (mTest (mOp eqD (.e (mOp ixD (.e (mVar 0)) (.e (mC (.int 0))))) (.e (mC (.str "and"))))) (mRet (mIf (mTest (mCall0 mm [(.e (mOp ixD (.e (mVar 0)) (.e (mC (.int 1))))), (.e (mVar 1))])) (mCall0 mm [(.e (mOp ixD (.e (mVar 0)) (.e (mC (.int 2))))), (.e (mVar 1))]) (mC (.bl false)))) mPass)
    (mSeq (mIfS (mTest (mOp eqD (.e (mOp ixD (.e (mVar 0)) (.e (mC (.int 0))))) (.e (mC (.str "or"))))) (mRet (mIf (mTest (mCall0 mm [(.e (mOp ixD (.e (mVar 0)) (.e (mC (.int 1))))), (.e (mVar 1))])) (mC (.bl true)) (mCall0 mm [(.e (mOp ixD (.e (mVar 0)) (.e (mC (.int 2))))), (.e (mVar 1))]))) mPass)
    (mRet (mOp eqD (.e (mOp ixD (.e (mVar 0)) (.e (mC (.int 0))))) (.e (mC (.str "all")))))))))
def m__law_member : Nat → List D → Option D
  | 0 => fun _ => none
  | n + 1 => runFn0 2 2 (m__law_member_B (m__law_member n))
def m__law_negated_B : MS := (mRet (mCB tupF [(.e (mLc (itSeq (mVar 0)) (gN 1) mYes (mDisp .tup [(.e (mOp ixD (.e (mVar 1)) (.e (mC (.int 0))))), (.e (mUn negD (.e (mOp ixD (.e (mVar 1)) (.e (mC (.int 1)))))))]) [1]))]))
def m__law_negated : List D → Option D := runFn0 2 1 m__law_negated_B
def m__law_taken_B : MS := (mRet (mLc (itSeq (mOp addD (.e (mOp addD (.e (mOp ixD (.e (mVar 0)) (.e (mC (.int 2))))) (.e (mOp ixD (.e (mVar 0)) (.e (mC (.int 3))))))) (.e (mOp ixD (.e (mVar 0)) (.e (mC (.int 4))))))) (gN 1) mYes (mOp ixD (.e (mVar 1)) (.e (mC (.int 0)))) [1]))
def m__law_taken : List D → Option D := runFn0 2 1 m__law_taken_B
def m__law_ordered_B : MS := (mRet (mCB tupF [(.e (mLc (itSeq (mOp ixD (.e (mVar 0)) (.e (mC (.int 0))))) (gN 2) (mTest (mOp (inD false) (.e (mVar 2)) (.e (mVar 1)))) (mVar 2) [2]))]))
def m__law_ordered : List D → Option D := runFn0 3 2 m__law_ordered_B
def m__law_kind_of_1 : MS := (mIfS (mTest (mOp eqD (.e (mOp ixD (.e (mVar 3)) (.e (mC (.int 0))))) (.e (mVar 1)))) (mAsg (mVar 3) (gN 2)) mPass)
def m__law_kind_of_B : MS := (mSeq (mAsg (mC .non) (gN 2))
    (mSeq (mFor (itSeq (mOp ixD (.e (mVar 0)) (.e (mC (.int 2))))) (gN 3) m__law_kind_of_1)
    (mRet (mVar 2))))
def m__law_kind_of : List D → Option D := runFn0 4 2 m__law_kind_of_B
def m__law_total_B : MS := (mRet (mCB sumF [(.e (mLc (itRng1 (.e (mCB lenF [(.e (mVar 1))]))) (gN 2) mYes (mOp mulD (.e (mOp ixD (.e (mVar 0)) (.e (mVar 2)))) (.e (mOp ixD (.e (mOp ixD (.e (mVar 1)) (.e (mVar 2)))) (.e (mC (.int 3)))))) [2]))]))
def m__law_total : List D → Option D := runFn0 3 2 m__law_total_B
def m_entry_rows_1 : MS := (mSeq (mAsg (mLc (itSeq (mOp ixD (.e (mVar 0)) (.e (mC (.int 1))))) (gN 4) mYes (mCall0 m_entry_of [(.e (mOp ixD (.e (mVar 2)) (.e (mC (.int 2))))), (.e (mVar 4))]) [4]) (gN 3))
    (mPut 1 (mOp ixD (.e (mVar 2)) (.e (mC (.int 0)))) (mDisp .tup [(.e (mVar 3)), (.e (mLc (itSeq (mOp ixD (.e (mVar 0)) (.e (mC (.int 1))))) (gN 4) mYes (mCall0 m_entry_of [(.e (mOp ixD (.e (mVar 2)) (.e (mC (.int 4))))), (.e (mVar 4))]) [4]))])))
def m_entry_rows_B : MS := (mSeq (mAsgO (mC (.dk [] [])) 1)
    (mSeq (mFor (itSeq (mOp ixD (.e (mVar 0)) (.e (mC (.int 2))))) (gN 2) m_entry_rows_1)
    (mFrz 1 (mRet (mVar 1)))))
def m_entry_rows : List D → Option D := runFn0 5 1 m_entry_rows_B
def m_members_B : MS := (mRet (mLc (itEnum (mVar 1)) (gT 2 (gCons' (gN 3) (gCons' (gN 4) gNil'))) (mTru (.e (mCall0 (m_belongs FUEL_belongs) [(.e (mVar 0)), (.e (mCall0 m_profile_of [(.e (mVar 0)), (.e (mVar 4))])), (.e (mVar 2))]))) (mVar 3) [3, 4]))
def m_members : List D → Option D := runFn0 5 3 m_members_B
def m_group_profiles_B : MS := (mSeq (mAsg (mRng1 (.e (mCall0 m_profile_count [(.e (mVar 0))])) .tup) (gN 2))
    (mSeq (mIfS (mTest (mOp isND (.e (mVar 1)) (.e (mC .non)))) (mRet (mVar 2)) mPass)
    (mRet (mOp addD (.e (mVar 2)) (.e (mDisp .tup [(.e (mVar 1))]))))))
def m_group_profiles : List D → Option D := runFn0 3 2 m_group_profiles_B
def m_worth_B : MS := (mRet (mCB sumF [(.e (mLc (itZip (mVar 1) (mOp ixD (.e (mVar 0)) (.e (mC (.int 1))))) (gT 2 (gCons' (gN 3) (gCons' (gN 4) gNil'))) mYes (mOp mulD (.e (mVar 3)) (.e (mCall0 m_entry_of [(.e (mVar 2)), (.e (mVar 4))]))) [3, 4]))]))
def m_worth : List D → Option D := runFn0 5 3 m_worth_B
def m_profile_apart_B : MS := (mSeq (mIfS (mTest (mOp isND (.e (mVar 2)) (.e (mC .non)))) (mRet (mC .non)) mPass)
    (mRet (mCall0 m_profile_of [(.e (mVar 0)), (.e (mOp ixD (.e (mOp ixD (.e (mVar 1)) (.e (mC (.int 0))))) (.e (mVar 2))))])))
def m_profile_apart : List D → Option D := runFn0 3 3 m_profile_apart_B
def m__law_order_1 : MS := (mExpr (mMut appF 3 [(.e (mMut popAtF 2 [(.e (mCall1 m__law_draw 0 [(.e (mCB lenF [(.s 2)]))]))]))]))
def m__law_order_B : MS := (mSeq (mAsgO (mRng1 (.e (mVar 1)) .lst) 2)
    (mSeq (mAsgO (mDisp .lst []) 3)
    (mSeq (mFor (itRng1 (.e (mVar 1))) (gN 4) m__law_order_1)
    (mFrz 3 (mRet (mVar 3))))))
def m__law_order : List D → Option (D × D) := runFn1 5 1 m__law_order_B
def m__law_run_B : MS := (mRet (mStrM joinF (mC (.str "")) [(.e (mLc (itRng1 (.e (mVar 1))) (gN 2) mYes (mOp ixD (.e (mCall0 m__law_letters [])) (.e (mCall1 m__law_draw 0 [(.e (mC (.int 26)))]))) [2]))]))
def m__law_run : List D → Option (D × D) := runFn1 3 1 m__law_run_B
def m__law_leaf_B : MS := (mSeq (mAsg (mCall1 m__law_draw 0 [(.e (mOp addD (.e (mC (.int 2))) (.e (mOp mulD (.e (mC (.int 2))) (.e (mCB lenF [(.e (mVar 1))]))))))]) (gN 2))
    (mSeq (mIfS (mTest (mOp ltD (.e (mVar 2)) (.e (mC (.int 2))))) (mRet (mOp ixD (.e (mDisp .lst [(.e (mDisp .tup [(.e (mC (.str "all")))])), (.e (mDisp .tup [(.e (mC (.str "none")))]))])) (.e (mVar 2)))) mPass)
    (mRet (mDisp .tup [(.e (mC (.str "sector"))), (.e (mOp ixD (.e (mVar 1)) (.e (mOp subD (.e (mOp fdivD (.e (mVar 2)) (.e (mC (.int 2))))) (.e (mC (.int 1)))))))]))))
def m__law_leaf : List D → Option (D × D) := runFn1 3 1 m__law_leaf_B
def m__law_number_B : MS := (mSeq (mAsg (mDisp .lst [(.e (mC (.int 1))), (.e (mC (.int 1))), (.e (mC (.int 1))), (.e (mC (.int 2))), (.e (mC (.int 2))), (.e (mC (.int 3)))]) (gN 2))
    (mSeq (mIfS (mTest (mOp gtD (.e (mVar 1)) (.e (mC (.int 0))))) (mAsg (mDisp .lst [(.e (mC (.int 1))), (.e (mC (.int 1))), (.e (mC (.int 1))), (.e (mC (.int 2))), (.e (mC (.int 10))), (.e (mC (.int 9999))), (.e (mC (.int 100))), (.e (mOp addD (.e (mC (.int 1))) (.e (mCall1 m__law_draw 0 [(.e (mC (.int 9999)))]))))]) (gN 2)) mPass)
    (mSeq (mAsg (mOp ixD (.e (mVar 2)) (.e (mCall1 m__law_draw 0 [(.e (mCB lenF [(.e (mVar 2))]))]))) (gN 3))
    (mRet (mOp ixD (.e (mDisp .lst [(.e (mVar 3)), (.e (mUn negD (.e (mVar 3))))])) (.e (mCall1 m__law_draw 0 [(.e (mC (.int 2)))])))))))
def m__law_number : List D → Option (D × D) := runFn1 4 1 m__law_number_B
def m__law_crowd_B : MS := (mSeq (mIfS (mTest (mOp eqD (.e (mCall1 m__law_draw 0 [(.e (mVar 2))])) (.e (mC (.int 0))))) (mRet (mOp ixD (.e (mDisp .lst [(.e (mC (.int 40))), (.e (mOp addD (.e (mC (.int 19))) (.e (mCall1 m__law_draw 0 [(.e (mC (.int 22)))]))))])) (.e (mCall1 m__law_draw 0 [(.e (mC (.int 2)))])))) mPass)
    (mRet (mCall1 m__law_draw 0 [(.e (mVar 1))])))
def m__law_crowd : List D → Option (D × D) := runFn1 3 2 m__law_crowd_B
def m__law_amount_B : MS := (mRet (mOp ixD (.e (mDisp .lst [(.e (mC (.int 1))), (.e (mC (.int 1))), (.e (mC (.int 2))), (.e (mC (.int 3))), (.e (mC (.int 5))), (.e (mC (.int 1000))), (.e (mOp addD (.e (mOp powD (.e (mC (.int 10))) (.e (mC (.int 59))))) (.e (mC (.int 1))))), (.e (mOp addD (.e (mC (.int 1))) (.e (mCall1 m__law_draw 0 [(.e (mC (.int 9)))]))))])) (.e (mCall1 m__law_draw 0 [(.e (mC (.int 8)))]))))
def m__law_amount : List D → Option (D × D) := runFn1 1 0 m__law_amount_B
def m__law_members_B : MS := (mRet (mLc (itRng1 (.e (mCB lenF [(.e (mVar 0))]))) (gN 2) (mTru (.e (mCall0 (m__law_member FUEL__law_member) [(.e (mVar 1)), (.e (mOp ixD (.e (mVar 0)) (.e (mVar 2))))]))) (mVar 2) [2]))
def m__law_members : List D → Option D := runFn0 3 2 m__law_members_B
def m__law_posted_B : MS := (mNest (itSeq (mVar 1)) 4 (mOpN mulN (.e (mDisp .lst [(.e (mC (.int 0)))])) (.e (mCB lenF [(.e (mOp ixD (.e (mVar 0)) (.e (mC (.int 1)))))]))) 3 8
    (zFor (itSeq (mVar 2)) 5 (zSeq (zAsg (mCall0 m__law_kind_of [(.e (mVar 0)), (.e (mOp ixD (.e (mVar 5)) (.e (mC (.int 0)))))]) 6)
    (zSeq (zFor (itSeq (mOp ixD (.e (mVar 6)) (.e (mC (.int 2))))) 7 (zSeq (zRow (mOp ixD (.e (mVar 5)) (.e (mC (.int 1)))))
    (zSeq (zAsg (mIdx (tupOnly (mOp ixD (.e (mVar 0)) (.e (mC (.int 1))))) (.e (mOp ixD (.e (mVar 7)) (.e (mC (.int 0)))))) 9)
    (zSet (mVar 9) (mOp mulD (.e (mOp ixD (.e (mVar 5)) (.e (mC (.int 3))))) (.e (mOp ixD (.e (mVar 7)) (.e (mC (.int 1))))))))))
    (zFor (itSeq (mOp ixD (.e (mVar 6)) (.e (mC (.int 4))))) 7 (zSeq (zRow (mOp ixD (.e (mVar 5)) (.e (mC (.int 2)))))
    (zSeq (zAsg (mIdx (tupOnly (mOp ixD (.e (mVar 0)) (.e (mC (.int 1))))) (.e (mOp ixD (.e (mVar 7)) (.e (mC (.int 0)))))) 9)
    (zSet (mVar 9) (mOp mulD (.e (mOp ixD (.e (mVar 5)) (.e (mC (.int 3))))) (.e (mOp ixD (.e (mVar 7)) (.e (mC (.int 1))))))))))))))
def m__law_posted : List D → Option D := runFn0 10 3 m__law_posted_B
def m__law_countered_B : MS := (mSeq (mIfS (mTest (mOp (eqE id) (.e (mOp ixD (.e (mVar 1)) (.e (mC (.int 2))))) (.e (mDisp .tup [])))) (mRet (mVar 1)) mPass)
    (mSeq (mAsg (mOp ixD (.e (mLc (itSeq (mOp ixD (.e (mVar 0)) (.e (mC (.int 2))))) (gN 3) (mTest (mOp (inD true) (.e (mVar 3)) (.e (mCall0 m__law_taken [(.e (mVar 1))])))) (mVar 3) [3])) (.e (mC (.int 0)))) (gN 2))
    (mSeq (mAsg (mOp ixD (.e (mOp ixD (.e (mVar 1)) (.e (mC (.int 2))))) (.e (mC (.int 0)))) (gN 4))
    (mSeq (mAsg (mDisp .tup [(.e (mVar 2)), (.e (mOp ixD (.e (mVar 4)) (.e (mC (.int 1))))), (.e (mCall0 m__law_negated [(.e (mOp ixD (.e (mVar 4)) (.e (mC (.int 2)))))])), (.e (mOp ixD (.e (mVar 4)) (.e (mC (.int 3))))), (.e (mCall0 m__law_negated [(.e (mOp ixD (.e (mVar 4)) (.e (mC (.int 4)))))]))]) (gN 5))
    (mRet (mOp addD (.e (mOp addD (.e (mSl (.e (mVar 1)) oNone (oSome (mC (.int 2))))) (.e (mDisp .tup [(.e (mOp addD (.e (mOp ixD (.e (mVar 1)) (.e (mC (.int 2))))) (.e (mDisp .tup [(.e (mVar 5))]))))])))) (.e (mSl (.e (mVar 1)) (oSome (mC (.int 3))) oNone))))))))
def m__law_countered : List D → Option D := runFn0 6 2 m__law_countered_B
def m_balances_1 : MS := (mSeq (mSet 3 (mVar 6) (mCall0 m_added [(.e (mOp ixD (.s 3) (.e (mVar 6)))), (.e (mVar 8)), (.e (mOp ixD (.e (mOp ixDA (.e (mVar 2)) (.e (mVar 5)))) (.e (mC (.int 0)))))]))
    (mSet 3 (mVar 7) (mCall0 m_added [(.e (mOp ixD (.s 3) (.e (mVar 7)))), (.e (mVar 8)), (.e (mOp ixD (.e (mOp ixDA (.e (mVar 2)) (.e (mVar 5)))) (.e (mC (.int 1)))))])))
def m_balances_B : MS := (mSeq (mAsg (mCall0 m_entry_rows [(.e (mVar 0))]) (gN 2))
    (mSeq (mAsgO (mLc (itSeq (mOp ixD (.e (mVar 1)) (.e (mC (.int 0))))) (gN 4) mYes (mOp mulD (.e (mDisp .lst [(.e (mC (.int 0)))])) (.e (mCB lenF [(.e (mOp ixD (.e (mVar 0)) (.e (mC (.int 1)))))]))) [4]) 3)
    (mSeq (mFor (itSeq (mOp ixD (.e (mVar 1)) (.e (mC (.int 1))))) (gT 4 (gCons' (gN 5) (gCons' (gN 6) (gCons' (gN 7) (gCons' (gN 8) gNil'))))) m_balances_1)
    (mFrz 3 (mRet (mCB tupF [(.e (mLc (itSeq (mVar 3)) (gN 9) mYes (mCB tupF [(.e (mVar 9))]) [9]))]))))))
def m_balances : List D → Option D := runFn0 10 2 m_balances_B
def m_sum_value_1 : MS := (mSeq (mAsg (mIdx (tupOnly (mOp ixD (.e (mVar 0)) (.e (mC (.int 1))))) (.e (mVar 6))) (gN 8))
    (mAsg (mOp addD (.e (mVar 4)) (.e (mOp mulD (.e (mVar 5)) (.e (mCB sumF [(.e (mLc (itSeq (mCall0 m_members [(.e (mVar 0)), (.e (mVar 1)), (.e (mVar 7))])) (gN 9) mYes (mOp ixD (.e (mOp ixD (.e (mVar 2)) (.e (mVar 9)))) (.e (mVar 8))) [9]))]))))) (gN 4)))
def m_sum_value_B : MS := (mSeq (mAsg (mC (.int 0)) (gN 4))
    (mSeq (mFor (itSeq (mVar 3)) (gT 3 (gCons' (gN 5) (gCons' (gN 6) (gCons' (gN 7) gNil')))) m_sum_value_1)
    (mRet (mVar 4))))
def m_sum_value : List D → Option D := runFn0 10 4 m_sum_value_B
def m_groups_in_B : MS := (mSeq (mAsg (mCall0 m_group_profiles [(.e (mVar 0)), (.e (mVar 1))]) (gN 3))
    (mRet (mLc (itEnum (mVar 3)) (gT 2 (gCons' (gN 4) (gCons' (gN 5) gNil'))) (mTru (.e (mCall0 (m_belongs FUEL_belongs) [(.e (mVar 0)), (.e (mVar 5)), (.e (mVar 2))]))) (mVar 4) [4, 5])))
def m_groups_in : List D → Option D := runFn0 6 3 m_groups_in_B
def m_weights_of_1 : MS := (mSeq (mAsg (mOp eqD (.e (mVar 5)) (.e (mVar 3))) (gN 9))
    (mSeq (mIfS (mTest (mOp eqD (.e (mOp ixD (.e (mVar 2)) (.e (mC (.int 0))))) (.e (mC (.str "sum"))))) (mAsg (mCall0 (m_belongs FUEL_belongs) [(.e (mVar 0)), (.e (mVar 6)), (.e (mOp ixD (.e (mVar 8)) (.e (mC (.int 2)))))]) (gN 9)) mPass)
    (mIfS (mTru (.e (mVar 9))) (mSeq (mAsg (mIdx (tupOnly (mOp ixD (.e (mVar 0)) (.e (mC (.int 1))))) (.e (mOp ixD (.e (mVar 8)) (.e (mC (.int 1)))))) (gN 10))
    (mSet 7 (mVar 10) (mOp addD (.e (mOp ixD (.s 7) (.e (mVar 10)))) (.e (mOp ixD (.e (mVar 8)) (.e (mC (.int 0)))))))) mPass)))
def m_weights_of_2 : MS := (mSeq (mAsgO (mOpN mulN (.e (mDisp .lst [(.e (mC (.int 0)))])) (.e (mCB lenF [(.e (mOp ixD (.e (mVar 0)) (.e (mC (.int 1)))))]))) 7)
    (mSeq (mFor (itSeq (mCall0 m_terms_of [(.e (mVar 2))])) (gN 8) m_weights_of_1)
    (mFrz 7 (mExpr (mMut appF 4 [(.s 7)])))))
def m_weights_of_B : MS := (mSeq (mAsgO (mDisp .lst []) 4)
    (mSeq (mFor (itEnum (mCall0 m_group_profiles [(.e (mVar 0)), (.e (mVar 1))])) (gT 2 (gCons' (gN 5) (gCons' (gN 6) gNil'))) m_weights_of_2)
    (mFrz 4 (mRet (mVar 4)))))
def m_weights_of : List D → Option D := runFn0 11 4 m_weights_of_B
def m_contribution_row_1 : MS := (mSeq (mPut 4 (mOp ixD (.e (mVar 6)) (.e (mC (.int 0)))) (mLc (itSeq (mVar 2)) (gN 7) mYes (mCall0 m_worth [(.e (mVar 0)), (.e (mVar 7)), (.e (mOp ixD (.e (mVar 6)) (.e (mC (.int 2)))))]) [7]))
    (mPut 5 (mOp ixD (.e (mVar 6)) (.e (mC (.int 0)))) (mLc (itSeq (mVar 2)) (gN 7) mYes (mCall0 m_worth [(.e (mVar 0)), (.e (mVar 7)), (.e (mOp ixD (.e (mVar 6)) (.e (mC (.int 4)))))]) [7])))
def m_contribution_row_B : MS := (mSeq (mAsgO (mC (.dk [] [])) 4)
    (mSeq (mAsgO (mC (.dk [] [])) 5)
    (mSeq (mFor (itSeq (mOp ixD (.e (mVar 0)) (.e (mC (.int 2))))) (gN 6) m_contribution_row_1)
    (mRet (mCB tupF [(.e (mLc (itSeq (mVar 1)) (gT 3 (gCons' (gN 8) (gCons' (gN 9) (gCons' (gN 10) gNil')))) mYes (mOp mulD (.e (mVar 3)) (.e (mOp addD (.e (mOp ixD (.e (mOp ixDA (.s 4) (.e (mVar 8)))) (.e (mVar 9)))) (.e (mOp ixD (.e (mOp ixDA (.s 5) (.e (mVar 8)))) (.e (mVar 10))))))) [8, 9, 10]))])))))
def m_contribution_row : List D → Option D := runFn0 11 4 m_contribution_row_B
def m__law_names_1 : MS := (mSeq (mAsg (mOp addD (.e (mVar 3)) (.e (mMut popAtF 6 [(.e (mCall1 m__law_draw 0 [(.e (mCB lenF [(.s 6)]))]))]))) (gN 9))
    (mSeq (mAsg (mOp addD (.e (mVar 9)) (.e (mCall1 m__law_run 0 [(.e (mOp ixD (.e (mDisp .lst [(.e (mC (.int 0))), (.e (mC (.int 0))), (.e (mC (.int 1))), (.e (mC (.int 2)))])) (.e (mCall1 m__law_draw 0 [(.e (mC (.int 4)))]))))]))) (gN 9))
    (mSeq (mIfS (mTest (mOp (inD false) (.e (mVar 9)) (.e (mVar 5)))) (mAsg (mOp addD (.e (mVar 9)) (.e (mC (.str "x")))) (gN 9)) mPass)
    (mExpr (mMut appF 7 [(.e (mVar 9))])))))
def m__law_names_2 : MS := (mSeq (mAsg (mOp ixD (.e (mVar 4)) (.e (mCall1 m__law_draw 0 [(.e (mC (.int 8)))]))) (gN 10))
    (mIfS (mTest (mOp (inD true) (.e (mVar 10)) (.s 7))) (mSet 7 (mVar 8) (mVar 10)) mPass))
def m__law_names_B : MS := (mSeq (mAsg (mDisp .lst [(.e (mC (.str ""))), (.e (mC (.str ""))), (.e (mC (.str ""))), (.e (mC (.str "al"))), (.e (mC (.str "no"))), (.e (mC (.str "claim"))), (.e (mC (.str "sector"))), (.e (mCall1 m__law_run 0 [(.e (mCall1 m__law_draw 0 [(.e (mC (.int 10)))]))])), (.e (mCall1 m__law_run 0 [(.e (mC (.int 9)))]))]) (gN 2))
    (mSeq (mAsg (mOp ixD (.e (mVar 2)) (.e (mCall1 m__law_draw 0 [(.e (mC (.int 9)))]))) (gN 3))
    (mSeq (mAsg (mDisp .lst [(.e (mC (.str "sector"))), (.e (mC (.str "sum"))), (.e (mC (.str "number"))), (.e (mC (.str "end"))), (.e (mC (.str "name"))), (.e (mC (.str "symbol"))), (.e (mC (.str "invalid"))), (.e (mC (.str "holds")))]) (gN 4))
    (mSeq (mAsg (mCall0 m__law_reserved []) (gN 5))
    (mSeq (mAsgO (mCB listFA [(.e (mCall0 m__law_letters []))]) 6)
    (mSeq (mAsgO (mDisp .lst []) 7)
    (mSeq (mFor (itRng1 (.e (mVar 1))) (gN 8) m__law_names_1)
    (mSeq (mIfS (mTest (mOp eqD (.e (mCall1 m__law_draw 0 [(.e (mC (.int 8)))])) (.e (mC (.int 0))))) (mFor (itRng1 (.e (mCB min2F [(.e (mVar 1)), (.e (mC (.int 4)))]))) (gN 8) m__law_names_2) mPass)
    (mFrz 7 (mRet (mVar 7)))))))))))
def m__law_names : List D → Option (D × D) := runFn1 11 1 m__law_names_B
abbrev FUEL__law_sector : Nat := 40
def m__law_sector_B (mm : List D → Option (D × D)) : MS := (mSeq (mAsg (mOp ixD (.e (mDisp .lst [(.e (mC (.str "or"))), (.e (mC (.str "and"))), (.e (mC (.str "not"))), (.e (mC (.str "or"))), (.e (mC (.str "and"))), (.e (mC (.str "or"))), (.e (mC (.str "and"))), (.e (mC (.str "leaf")))])) (.e (mCall1 m__law_draw 0 [(.e (mC (.int 8)))]))) (gN 5))
    (mSeq (mIfS (mAnd (mTest (mOp ltD (.e (mVar 2)) (.e (mC (.int 2))))) (mTest (mOp neD (.e (mVar 5)) (.e (mC (.str "not")))))) (mAsg (mC (.str "leaf")) (gN 5)) mPass)
    (mSeq (mIfS (mTest (mOp eqD (.e (mVar 5)) (.e (mC (.str "leaf"))))) (mRet (mCall1 m__law_leaf 0 [(.e (mVar 1))])) mPass)
    (mSeq (mAsg (mIdx (lstOnly (mDisp .lst [(.e (mC (.str "or"))), (.e (mC (.str "and"))), (.e (mC (.str "not")))])) (.e (mVar 5))) (gN 6))
    (mSeq (mIfS (mAnd (mTest (mOp ltD (.e (mVar 6)) (.e (mVar 4)))) (mTest (mOp eqD (.e (mVar 3)) (.e (mC (.int 0)))))) (mRet (mCall1 m__law_leaf 0 [(.e (mVar 1))])) mPass)
    (mSeq (mIfS (mTest (mOp ltD (.e (mVar 6)) (.e (mVar 4)))) (mAsg (mOp subD (.e (mVar 3)) (.e (mC (.int 1)))) (gN 3)) mPass)
    (mSeq (mIfS (mTest (mOp eqD (.e (mVar 5)) (.e (mC (.str "not"))))) (mRet (mDisp .tup [(.e (mC (.str "not"))), (.e (mCall1 mm 0 [(.e (mVar 1)), (.e (mVar 2)), (.e (mVar 3)), (.e (mC (.int 3)))]))])) mPass)
    (mSeq (mAsg (mOp addD (.e (mC (.int 1))) (.e (mCall1 m__law_draw 0 [(.e (mOp subD (.e (mVar 2)) (.e (mC (.int 1)))))]))) (gN 7))
    (mSeq (mAsg (mCall1 mm 0 [(.e (mVar 1)), (.e (mVar 7)), (.e (mVar 3)), (.e (mVar 6))]) (gN 8))
    (mRet (mDisp .tup [(.e (mVar 5)), (.e (mVar 8)), (.e (mCall1 mm 0 [(.e (mVar 1)), (.e (mOp subD (.e (mVar 2)) (.e (mVar 7)))), (.e (mVar 3)), (.e (mOp addD (.e (mVar 6)) (.e (mC (.int 1)))))]))])))))))))))
def m__law_sector : Nat → List D → Option (D × D)
  | 0 => fun _ => none
  | n + 1 => runFn1 9 4 (m__law_sector_B (m__law_sector n))
def m__law_deep_1 : MS := (mSeq (mAsg (mCall1 m__law_draw 0 [(.e (mC (.int 4)))]) (gN 5))
    (mIfS (mAnd (mTest (mOp eqD (.e (mVar 5)) (.e (mC (.int 0))))) (mTest (mOp eqD (.e (mOp ixD (.e (mVar 3)) (.e (mC (.int 0))))) (.e (mC (.str "or")))))) (mAsg (mDisp .tup [(.e (mC (.str "or"))), (.e (mCall1 m__law_leaf 0 [(.e (mVar 1))])), (.e (mVar 3))]) (gN 3)) (mIfS (mAnd (mTest (mOp ltD (.e (mVar 5)) (.e (mC (.int 2))))) (mTest (mOp neD (.e (mOp ixD (.e (mVar 3)) (.e (mC (.int 0))))) (.e (mC (.str "not")))))) (mAsg (mDisp .tup [(.e (mC (.str "and"))), (.e (mCall1 m__law_leaf 0 [(.e (mVar 1))])), (.e (mVar 3))]) (gN 3)) (mIfS (mAnd (mTest (mOp eqD (.e (mVar 5)) (.e (mC (.int 2))))) (mTest (mOp eqD (.e (mOp ixD (.e (mVar 3)) (.e (mC (.int 0))))) (.e (mC (.str "or")))))) (mAsg (mDisp .tup [(.e (mC (.str "and"))), (.e (mVar 3)), (.e (mCall1 m__law_leaf 0 [(.e (mVar 1))]))]) (gN 3)) (mAsg (mDisp .tup [(.e (mC (.str "not"))), (.e (mVar 3))]) (gN 3))))))
def m__law_deep_B : MS := (mSeq (mAsg (mDisp .tup [(.e (mC (.str "or"))), (.e (mCall1 m__law_leaf 0 [(.e (mVar 1))])), (.e (mCall1 m__law_leaf 0 [(.e (mVar 1))]))]) (gN 3))
    (mSeq (mFor (itRng1 (.e (mVar 2))) (gN 4) m__law_deep_1)
    (mRet (mVar 3))))
def m__law_deep : List D → Option (D × D) := runFn1 6 2 m__law_deep_B
def m__law_entries_1 : MS := (mSeq (mAsg (mMut popAtF 3 [(.e (mCall1 m__law_draw 0 [(.e (mCB lenF [(.s 3)]))]))]) (gN 6))
    (mExpr (mMut appF 4 [(.e (mDisp .tup [(.e (mVar 6)), (.e (mCall1 m__law_number 0 [(.e (mVar 2))]))]))])))
def m__law_entries_B : MS := (mSeq (mAsgO (mCB listFA [(.e (mVar 1))]) 3)
    (mSeq (mAsgO (mDisp .lst []) 4)
    (mSeq (mFor (itRng1 (.e (mCall1 m__law_draw 0 [(.e (mOp addD (.e (mCB lenF [(.e (mVar 1))])) (.e (mC (.int 1)))))]))) (gN 5) m__law_entries_1)
    (mRet (mCB tupF [(.s 4)])))))
def m__law_entries : List D → Option (D × D) := runFn1 7 2 m__law_entries_B
def m__law_people_1 : MS := (mSeq (mAsg (mOp ixD (.e (mVar 3)) (.e (mCall1 m__law_draw 0 [(.e (mCB lenF [(.e (mVar 3))]))]))) (gN 6))
    (mExpr (mMut appF 4 [(.e (mCB tupF [(.e (mLc (itSeq (mCall1 m__law_order 0 [(.e (mCB lenF [(.e (mVar 6))]))])) (gN 7) mYes (mOp ixD (.e (mVar 6)) (.e (mVar 7))) [7]))]))])))
def m__law_people_B : MS := (mSeq (mAsg (mCall0 m__law_sets [(.e (mVar 1))]) (gN 3))
    (mSeq (mAsgO (mDisp .lst []) 4)
    (mSeq (mFor (itRng1 (.e (mVar 2))) (gN 5) m__law_people_1)
    (mFrz 4 (mRet (mVar 4))))))
def m__law_people : List D → Option (D × D) := runFn1 8 2 m__law_people_B
def m__law_deal_B : MS := (mSeq (mAsg (mCall0 m__law_members [(.e (mVar 2)), (.e (mOp ixD (.e (mVar 1)) (.e (mC (.int 1)))))]) (gN 3))
    (mSeq (mIfS (mNot (mTru (.e (mVar 3)))) (mRet (mC .non)) mPass)
    (mSeq (mAsg (mOp ixD (.e (mVar 3)) (.e (mCall1 m__law_draw 0 [(.e (mCB lenF [(.e (mVar 3))]))]))) (gN 4))
    (mSeq (mAsg (mLc (itSeq (mCall0 m__law_members [(.e (mVar 2)), (.e (mOp ixD (.e (mVar 1)) (.e (mC (.int 3)))))])) (gN 6) (mTest (mOp neD (.e (mVar 6)) (.e (mVar 4)))) (mVar 6) [6]) (gN 5))
    (mSeq (mIfS (mNot (mTru (.e (mVar 5)))) (mRet (mC .non)) mPass)
    (mRet (mDisp .tup [(.e (mOp ixD (.e (mVar 1)) (.e (mC (.int 0))))), (.e (mVar 4)), (.e (mOp ixD (.e (mVar 5)) (.e (mCall1 m__law_draw 0 [(.e (mCB lenF [(.e (mVar 5))]))])))), (.e (mCall1 m__law_amount 0 []))])))))))
def m__law_deal : List D → Option (D × D) := runFn1 7 2 m__law_deal_B
def m__law_value_1 : MS := (mSeq (mAsg (mIdx (tupOnly (mOp ixD (.e (mVar 0)) (.e (mC (.int 1))))) (.e (mOp ixD (.e (mVar 5)) (.e (mC (.int 1)))))) (gN 6))
    (mAsg (mOp addD (.e (mVar 4)) (.e (mOp mulD (.e (mOp ixD (.e (mVar 5)) (.e (mC (.int 0))))) (.e (mCB sumF [(.e (mLc (itSeq (mCall0 m__law_members [(.e (mVar 1)), (.e (mOp ixD (.e (mVar 5)) (.e (mC (.int 2)))))])) (gN 7) mYes (mOp ixD (.e (mOp ixD (.e (mVar 2)) (.e (mVar 7)))) (.e (mVar 6))) [7]))]))))) (gN 4)))
def m__law_value_2 : MS := (mExpr (mMut appF 8 [(.e (mDisp .tup [(.e (mVar 7)), (.e (mCB sumF [(.e (mLc (itSeq (mOp ixD (.e (mVar 3)) (.e (mC (.int 2))))) (gN 5) mYes (mOp mulD (.e (mOp ixD (.e (mVar 5)) (.e (mC (.int 0))))) (.e (mOp ixD (.e (mOp ixD (.e (mVar 2)) (.e (mVar 7)))) (.e (mIdx (tupOnly (mOp ixD (.e (mVar 0)) (.e (mC (.int 1))))) (.e (mOp ixD (.e (mVar 5)) (.e (mC (.int 1)))))))))) [5]))]))]))]))
def m__law_value_B : MS := (mSeq (mIfS (mTest (mOp eqD (.e (mOp ixD (.e (mVar 3)) (.e (mC (.int 0))))) (.e (mC (.str "sum"))))) (mSeq (mAsg (mC (.int 0)) (gN 4))
    (mSeq (mFor (itSeq (mOp ixD (.e (mVar 3)) (.e (mC (.int 1))))) (gN 5) m__law_value_1)
    (mRet (mVar 4)))) mPass)
    (mSeq (mAsgO (mDisp .lst []) 8)
    (mSeq (mFor (itSeq (mCall0 m__law_members [(.e (mVar 1)), (.e (mOp ixD (.e (mVar 3)) (.e (mC (.int 1)))))])) (gN 7) m__law_value_2)
    (mRet (mCB tupF [(.s 8)])))))
def m__law_value : List D → Option D := runFn0 9 4 m__law_value_B
def m__law_units_1 : MS := (mIfS (mOr (mTest (mOp ltD (.e (mVar 7)) (.e (mVar 3)))) (mTest (mOp ltD (.e (mVar 8)) (.e (mVar 3))))) (mExpr (mMut appF 4 [(.e (mDisp .tup [(.e (mOp ixD (.e (mVar 5)) (.e (mC (.int 0))))), (.e (mVar 7)), (.e (mVar 8))]))])) mPass)
def m__law_units_2 : MS := (mFor (itSeq (mVar 6)) (gN 8) m__law_units_1)
def m__law_units_3 : MS := (mSeq (mAsg (mCall0 m__law_members [(.e (mVar 2)), (.e (mOp ixD (.e (mVar 5)) (.e (mC (.int 3)))))]) (gN 6))
    (mFor (itSeq (mCall0 m__law_members [(.e (mVar 2)), (.e (mOp ixD (.e (mVar 5)) (.e (mC (.int 1)))))])) (gN 7) m__law_units_2))
def m__law_units_B : MS := (mSeq (mAsg (mCall0 m__law_sets [(.e (mOp ixD (.e (mVar 0)) (.e (mC (.int 0)))))]) (gN 2))
    (mSeq (mAsg (mCB lenF [(.e (mVar 2))]) (gN 3))
    (mSeq (mIfS (mTest (mOp notND (.e (mVar 1)) (.e (mC .non)))) (mAsg (mOp addD (.e (mVar 2)) (.e (mDisp .lst [(.e (mOp ixD (.e (mVar 2)) (.e (mVar 1))))]))) (gN 2)) mPass)
    (mSeq (mAsgO (mDisp .lst []) 4)
    (mSeq (mFor (itSeq (mOp ixD (.e (mVar 0)) (.e (mC (.int 2))))) (gN 5) m__law_units_3)
    (mFrz 4 (mRet (mVar 4))))))))
def m__law_units : List D → Option D := runFn0 9 2 m__law_units_B
def m_value_by_1 : MS := (mExpr (mMut appF 4 [(.e (mDisp .tup [(.e (mVar 5)), (.e (mCall0 m_member_value [(.e (mVar 0)), (.e (mOp ixD (.e (mVar 2)) (.e (mVar 5)))), (.e (mOp ixD (.e (mVar 3)) (.e (mC (.int 2)))))]))]))]))
def m_value_by_B : MS := (mSeq (mIfS (mTest (mOp eqD (.e (mOp ixD (.e (mVar 3)) (.e (mC (.int 0))))) (.e (mC (.str "sum"))))) (mRet (mCall0 m_sum_value [(.e (mVar 0)), (.e (mVar 1)), (.e (mVar 2)), (.e (mOp ixD (.e (mVar 3)) (.e (mC (.int 1)))))])) mPass)
    (mSeq (mAsgO (mDisp .lst []) 4)
    (mSeq (mFor (itSeq (mCall0 m_members [(.e (mVar 0)), (.e (mVar 1)), (.e (mOp ixD (.e (mVar 3)) (.e (mC (.int 1)))))])) (gN 5) m_value_by_1)
    (mRet (mCB tupF [(.s 4)])))))
def m_value_by : List D → Option D := runFn0 6 4 m_value_by_B
def m_unit_transactions_1 : MS := (mIfS (mOr (mTest (mOp ltD (.e (mVar 6)) (.e (mVar 2)))) (mTest (mOp ltD (.e (mVar 7)) (.e (mVar 2))))) (mExpr (mMut appF 3 [(.e (mDisp .tup [(.e (mOp ixD (.e (mVar 4)) (.e (mC (.int 0))))), (.e (mVar 6)), (.e (mVar 7))]))])) mPass)
def m_unit_transactions_2 : MS := (mFor (itSeq (mVar 5)) (gN 7) m_unit_transactions_1)
def m_unit_transactions_3 : MS := (mSeq (mAsg (mCall0 m_groups_in [(.e (mVar 0)), (.e (mVar 1)), (.e (mOp ixD (.e (mVar 4)) (.e (mC (.int 3)))))]) (gN 5))
    (mFor (itSeq (mCall0 m_groups_in [(.e (mVar 0)), (.e (mVar 1)), (.e (mOp ixD (.e (mVar 4)) (.e (mC (.int 1)))))])) (gN 6) m_unit_transactions_2))
def m_unit_transactions_B : MS := (mSeq (mAsg (mCall0 m_profile_count [(.e (mVar 0))]) (gN 2))
    (mSeq (mAsgO (mDisp .lst []) 3)
    (mSeq (mFor (itSeq (mOp ixD (.e (mVar 0)) (.e (mC (.int 2))))) (gN 4) m_unit_transactions_3)
    (mRet (mCB tupF [(.s 3)])))))
def m_unit_transactions : List D → Option D := runFn0 8 2 m_unit_transactions_B
def m__law_some_sector_B : MS := (mSeq (mAsg (mCall1 m__law_draw 0 [(.e (mC (.int 8)))]) (gN 4))
    (mSeq (mIfS (mTest (mOp ltD (.e (mVar 2)) (.e (mC (.int 8))))) (mRet (mCall1 (m__law_sector FUEL__law_sector) 0 [(.e (mVar 1)), (.e (mCB min2F [(.e (mVar 2)), (.e (mOp addD (.e (mC (.int 1))) (.e (mVar 4))))])), (.e (mC (.int 2))), (.e (mVar 3))])) mPass)
    (mSeq (mIfS (mTest (mOp eqD (.e (mVar 4)) (.e (mC (.int 7))))) (mRet (mCall1 m__law_deep 0 [(.e (mVar 1)), (.e (mCall1 m__law_draw 0 [(.e (mOp subD (.e (mC (.int 7))) (.e (mCB intF [(.e (mOp gtD (.e (mVar 3)) (.e (mC (.int 0)))))]))))]))])) mPass)
    (mSeq (mIfS (mTest (mOp gtD (.e (mVar 4)) (.e (mC (.int 3))))) (mRet (mCall1 (m__law_sector FUEL__law_sector) 0 [(.e (mVar 1)), (.e (mVar 2)), (.e (mC (.int 6))), (.e (mVar 3))])) mPass)
    (mRet (mCall1 (m__law_sector FUEL__law_sector) 0 [(.e (mVar 1)), (.e (mOp addD (.e (mC (.int 1))) (.e (mVar 4)))), (.e (mC (.int 6))), (.e (mVar 3))]))))))
def m__law_some_sector : List D → Option (D × D) := runFn1 5 3 m__law_some_sector_B
def m__law_lists_B : MS := (mSeq (mAsg (mCall1 m__law_names 0 [(.e (mC (.int 25)))]) (gN 2))
    (mSeq (mAsg (mCall1 m__law_draw 0 [(.e (mOp addD (.e (mOp ixD (.e (mVar 1)) (.e (mC (.int 0))))) (.e (mC (.int 1)))))]) (gN 3))
    (mSeq (mAsg (mOp ixD (.e (mDisp .lst [(.e (mC (.int 0))), (.e (mVar 3)), (.e (mC (.int 1)))])) (.e (mCall1 m__law_draw 0 [(.e (mC (.int 3)))]))) (gN 4))
    (mSeq (mAsg (mSl (.e (mVar 2)) (oSome (mVar 4)) (oSome (mOp addD (.e (mOp addD (.e (mVar 4)) (.e (mC (.int 1))))) (.e (mCall1 m__law_draw 0 [(.e (mOp ixD (.e (mVar 1)) (.e (mC (.int 1)))))]))))) (gN 5))
    (mRet (mDisp .tup [(.e (mCB tupF [(.e (mSl (.e (mVar 2)) oNone (oSome (mVar 3))))])), (.e (mCB tupF [(.e (mVar 5))])), (.e (mSl (.e (mVar 2)) (oSome (mOp ixD (.e (mDisp .lst [(.e (mC (.int 3))), (.e (mC (.int 7)))])) (.e (mCall1 m__law_draw 0 [(.e (mC (.int 2)))])))) oNone))]))))))
def m__law_lists : List D → Option (D × D) := runFn1 6 1 m__law_lists_B
def m__law_deals_1 : MS := (mIfS (mTest (mOp (eqE not) (.e (mOp ixD (.e (mVar 1)) (.e (mC (.int 2))))) (.e (mDisp .tup [])))) (mSeq (mAsg (mCall1 m__law_deal 0 [(.e (mOp ixD (.e (mOp ixD (.e (mVar 1)) (.e (mC (.int 2))))) (.e (mCall1 m__law_draw 0 [(.e (mCB lenF [(.e (mOp ixD (.e (mVar 1)) (.e (mC (.int 2)))))]))])))), (.e (mVar 2))]) (gN 6))
    (mIfS (mTest (mOp notND (.e (mVar 6)) (.e (mC .non)))) (mExpr (mMut appF 4 [(.e (mVar 6))])) mPass)) mPass)
def m__law_deals_B : MS := (mSeq (mAsgO (mDisp .lst []) 4)
    (mSeq (mFor (itRng1 (.e (mVar 3))) (gN 5) m__law_deals_1)
    (mFrz 4 (mRet (mVar 4)))))
def m__law_deals : List D → Option (D × D) := runFn1 7 3 m__law_deals_B
def m__law_flows_1 : MS := (mSeq (mAsg (mIdxN (mVar 8) (.e (mDisp .tup [(.e (mOp ixD (.e (mVar 10)) (.e (mC (.int 0))))), (.e (mOp ixD (.s 5) (.e (mOp ixD (.e (mVar 10)) (.e (mC (.int 1))))))), (.e (mOp ixD (.s 5) (.e (mOp ixD (.e (mVar 10)) (.e (mC (.int 2)))))))]))) (gN 11))
    (mSet 9 (mVar 11) (mOp addD (.e (mOp ixD (.s 9) (.e (mVar 11)))) (.e (mOp ixD (.e (mVar 10)) (.e (mC (.int 3))))))))
def m__law_flows_B : MS := (mSeq (mAsg (mCall0 m__law_sets [(.e (mOp ixD (.e (mVar 0)) (.e (mC (.int 0)))))]) (gN 4))
    (mSeq (mAsgO (mLc (itSeq (mVar 1)) (gN 6) mYes (mIdxN (mVar 4) (.e (mCall0 m__law_ordered [(.e (mVar 0)), (.e (mVar 6))]))) [6]) 5)
    (mSeq (mAsg (mC .non) (gN 7))
    (mSeq (mIfS (mTest (mOp notND (.e (mVar 3)) (.e (mC .non)))) (mSeq (mAsg (mOp ixD (.s 5) (.e (mVar 3))) (gN 7))
    (mSet 5 (mVar 3) (mCB lenF [(.e (mVar 4))]))) mPass)
    (mSeq (mAsg (mCall0 m__law_units [(.e (mVar 0)), (.e (mVar 7))]) (gN 8))
    (mSeq (mAsgO (mOpN mulN (.e (mDisp .lst [(.e (mC (.int 0)))])) (.e (mCB lenF [(.e (mVar 8))]))) 9)
    (mSeq (mFor (itSeq (mVar 2)) (gN 10) m__law_flows_1)
    (mRet (mCB tupF [(.s 9)])))))))))
def m__law_flows : List D → Option D := runFn0 12 4 m__law_flows_B
def m_value_B : MS := (mRet (mCall0 m_value_by [(.e (mVar 0)), (.e (mOp ixD (.e (mVar 1)) (.e (mC (.int 0))))), (.e (mCall0 m_balances [(.e (mVar 0)), (.e (mVar 1))])), (.e (mVar 2))]))
def m_value : List D → Option D := runFn0 3 3 m_value_B
def m_contributions_B : MS := (mSeq (mIfS (mTest (mOp neD (.e (mOp ixD (.e (mVar 1)) (.e (mC (.int 0))))) (.e (mC (.str "sum"))))) mNever mPass)
    (mSeq (mAsg (mCall0 m_unit_transactions [(.e (mVar 0)), (.e (mC .non))]) (gN 2))
    (mSeq (mAsg (mCall0 m_contribution_row [(.e (mVar 0)), (.e (mVar 2)), (.e (mCall0 m_weights_of [(.e (mVar 0)), (.e (mC .non)), (.e (mVar 1)), (.e (mC .non))])), (.e (mC (.int 1)))]) (gN 3))
    (mRet (mCB tupF [(.e (mLc (itZip (mVar 2) (mVar 3)) (gT 2 (gCons' (gN 4) (gCons' (gN 5) gNil'))) mYes (mOp addD (.e (mVar 4)) (.e (mDisp .tup [(.e (mVar 5))]))) [4, 5]))])))))
def m_contributions : List D → Option D := runFn0 6 2 m_contributions_B
def m_flows_1 : MS := (mSeq (mAsg (mDisp .tup [(.e (mVar 8)), (.e (mOp ixD (.s 3) (.e (mVar 9)))), (.e (mOp ixD (.s 3) (.e (mVar 10))))]) (gN 7))
    (mPut3 6 (mVar 7) (mOp addD (.e (mOp ix3D (.s 6) (.e (mVar 7)))) (.e (mVar 11)))))
def m_flows_B : MS := (mSeq (mAsgO (mLc (itSeq (mOp ixD (.e (mVar 1)) (.e (mC (.int 0))))) (gN 4) mYes (mCall0 m_profile_of [(.e (mVar 0)), (.e (mVar 4))]) [4]) 3)
    (mSeq (mIfS (mTest (mOp notND (.e (mVar 2)) (.e (mC .non)))) (mSet 3 (mVar 2) (mCall0 m_profile_count [(.e (mVar 0))])) mPass)
    (mSeq (mAsg (mCall0 m_unit_transactions [(.e (mVar 0)), (.e (mCall0 m_profile_apart [(.e (mVar 0)), (.e (mVar 1)), (.e (mVar 2))]))]) (gN 5))
    (mSeq (mAsgO (mDc (itSeq (mVar 5)) (gN 7) (mVar 7) (mC (.int 0)) [7]) 6)
    (mSeq (mFor (itSeq (mOp ixD (.e (mVar 1)) (.e (mC (.int 1))))) (gT 4 (gCons' (gN 8) (gCons' (gN 9) (gCons' (gN 10) (gCons' (gN 11) gNil'))))) m_flows_1)
    (mRet (mCB tupF [(.e (mLc (itSeq (mVar 5)) (gN 7) mYes (mOp ix3D (.s 6) (.e (mVar 7))) [7]))])))))))
def m_flows : List D → Option D := runFn0 12 3 m_flows_B
def m__law_kind_B : MS := (mSeq (mAsg (mCall1 m__law_some_sector 0 [(.e (mVar 2)), (.e (mVar 4)), (.e (mC (.int 0)))]) (gN 6))
    (mSeq (mAsg (mCall1 m__law_some_sector 0 [(.e (mVar 2)), (.e (mVar 4)), (.e (mC (.int 0)))]) (gN 7))
    (mSeq (mAsg (mCall1 m__law_entries 0 [(.e (mVar 3)), (.e (mVar 5))]) (gN 8))
    (mSeq (mAsg (mCall1 m__law_entries 0 [(.e (mVar 3)), (.e (mVar 5))]) (gN 9))
    (mSeq (mIfS (mTest (mOp eqD (.e (mCall1 m__law_draw 0 [(.e (mC (.int 3)))])) (.e (mC (.int 0))))) (mAsg (mCall0 m__law_negated [(.e (mVar 8))]) (gN 9)) mPass)
    (mRet (mDisp .tup [(.e (mVar 1)), (.e (mVar 6)), (.e (mVar 8)), (.e (mVar 7)), (.e (mVar 9))])))))))
def m__law_kind : List D → Option (D × D) := runFn1 10 5 m__law_kind_B
def m__law_constraint_1 : MS := (mSeq (mAsg (mCall1 m__law_number 0 [(.e (mVar 5))]) (gN 9))
    (mExpr (mMut appF 7 [(.e (mDisp .tup [(.e (mVar 9)), (.e (mOp ixD (.e (mVar 2)) (.e (mCall1 m__law_draw 0 [(.e (mCB lenF [(.e (mVar 2))]))]))))]))])))
def m__law_constraint_B : MS := (mSeq (mAsg (mOp ixD (.e (mDisp .lst [(.e (mC (.str ">="))), (.e (mC (.str ">="))), (.e (mC (.str "=")))])) (.e (mCall1 m__law_draw 0 [(.e (mC (.int 3)))]))) (gN 6))
    (mSeq (mAsgO (mDisp .lst []) 7)
    (mSeq (mFor (itRng1 (.e (mOp addD (.e (mC (.int 1))) (.e (mCall1 m__law_draw 0 [(.e (mVar 3))]))))) (gN 8) m__law_constraint_1)
    (mSeq (mIfS (mTest (mOp eqD (.e (mCall1 m__law_draw 0 [(.e (mC (.int 2)))])) (.e (mC (.int 0))))) (mRet (mDisp .tup [(.e (mC (.str "each"))), (.e (mCall1 m__law_some_sector 0 [(.e (mVar 1)), (.e (mVar 4)), (.e (mC (.int 0)))])), (.e (mCB tupF [(.s 7)])), (.e (mVar 6))])) mPass)
    (mSeq (mFrz 7 (mAsg (mLc (itSeq (mVar 7)) (gN 11) mYes (mOp addD (.e (mVar 11)) (.e (mDisp .tup [(.e (mCall1 m__law_some_sector 0 [(.e (mVar 1)), (.e (mVar 4)), (.e (mC (.int 2)))]))]))) [11]) (gN 10)))
    (mRet (mDisp .tup [(.e (mC (.str "sum"))), (.e (mCB tupF [(.e (mVar 10))])), (.e (mVar 6))])))))))
def m__law_constraint : List D → Option (D × D) := runFn1 12 5 m__law_constraint_B
def m__law_claim_1 : MS := (mExpr (mMut appF 7 [(.e (mCall1 m__law_constraint 0 [(.e (mVar 1)), (.e (mVar 2)), (.e (mVar 4)), (.e (mVar 5)), (.e (mVar 6))]))]))
def m__law_claim_B : MS := (mSeq (mAsgO (mDisp .lst []) 7)
    (mSeq (mFor (itRng1 (.e (mCall1 m__law_draw 0 [(.e (mOp addD (.e (mVar 3)) (.e (mC (.int 1)))))]))) (gN 8) m__law_claim_1)
    (mRet (mDisp .tup [(.e (mCB tupF [(.s 7)])), (.e (mCall1 m__law_constraint 0 [(.e (mVar 1)), (.e (mVar 2)), (.e (mVar 4)), (.e (mVar 5)), (.e (mVar 6))]))]))))
def m__law_claim : List D → Option (D × D) := runFn1 9 6 m__law_claim_B
def m__law_one_by_one_1 : MS := (mIfS (mAnd (mTest (mOp ltD (.e (mOp ixD (.e (mVar 5)) (.e (mC (.int 3))))) (.e (mC (.int 0))))) (mTest (mOp gtD (.e (mVar 4)) (.e (mC (.int 0)))))) (mSeq (mAsg (mOp subD (.e (mVar 4)) (.e (mC (.int 1)))) (gN 4))
    (mSeq (mAsg (mDisp .tup [(.e (mDisp .tup [(.e (mOp ixD (.e (mVar 3)) (.e (mOp ixD (.e (mVar 5)) (.e (mC (.int 1))))))), (.e (mOp ixD (.e (mVar 3)) (.e (mOp ixD (.e (mVar 5)) (.e (mC (.int 2)))))))])), (.e (mDisp .tup [(.e (mDisp .tup [(.e (mOp ixD (.e (mVar 5)) (.e (mC (.int 0))))), (.e (mC (.int 0))), (.e (mC (.int 1))), (.e (mC (.int 1)))]))]))]) (gN 6))
    (mIfS (mNot (mTru (.e (mCall0 (m__law_same FUEL__law_same) [(.e (mCall0 m_value [(.e (mVar 0)), (.e (mVar 6)), (.e (mVar 2))])), (.e (mOp ixD (.e (mVar 5)) (.e (mC (.int 3)))))])))) (mRet (mC (.bl false))) mPass))) mPass)
def m__law_one_by_one_B : MS := (mSeq (mAsg (mCall0 m__law_sets [(.e (mOp ixD (.e (mVar 0)) (.e (mC (.int 0)))))]) (gN 3))
    (mSeq (mAsg (mC (.int 6)) (gN 4))
    (mSeq (mFor (itSeq (mVar 1)) (gN 5) m__law_one_by_one_1)
    (mRet (mC (.bl true))))))
def m__law_one_by_one : List D → Option D := runFn0 7 3 m__law_one_by_one_B
def m__law_model_1 : MS := (mExpr (mMut appF 9 [(.e (mCall1 m__law_kind 0 [(.e (mMut popAtF 8 [(.e (mCall1 m__law_draw 0 [(.e (mCB lenF [(.s 8)]))]))])), (.e (mVar 6)), (.e (mVar 7)), (.e (mVar 4)), (.e (mVar 5))]))]))
def m__law_model_2 : MS := (mSeq (mAsg (mMut popAtF 8 [(.e (mCall1 m__law_draw 0 [(.e (mCB lenF [(.s 8)]))]))]) (gN 12))
    (mExpr (mMut appF 11 [(.e (mDisp .tup [(.e (mVar 12)), (.e (mCall1 m__law_constraint 0 [(.e (mVar 6)), (.e (mVar 7)), (.e (mVar 3)), (.e (mVar 4)), (.e (mVar 5))]))]))])))
def m__law_model_3 : MS := (mSeq (mAsg (mMut popAtF 8 [(.e (mCall1 m__law_draw 0 [(.e (mCB lenF [(.s 8)]))]))]) (gN 12))
    (mExpr (mMut appF 13 [(.e (mDisp .tup [(.e (mVar 12)), (.e (mCall1 m__law_claim 0 [(.e (mVar 6)), (.e (mVar 7)), (.e (mC (.int 2))), (.e (mVar 3)), (.e (mVar 4)), (.e (mVar 5))]))]))])))
def m__law_model_B : MS := (mSeq (mAsg (mOp ixD (.e (mVar 1)) (.e (mC (.int 0)))) (gN 6))
    (mSeq (mAsg (mOp ixD (.e (mVar 1)) (.e (mC (.int 1)))) (gN 7))
    (mSeq (mAsgO (mCB listFA [(.e (mOp ixD (.e (mVar 1)) (.e (mC (.int 2)))))]) 8)
    (mSeq (mAsgO (mDisp .lst []) 9)
    (mSeq (mFor (itRng1 (.e (mCall1 m__law_draw 0 [(.e (mOp addD (.e (mOp ixD (.e (mVar 2)) (.e (mC (.int 0))))) (.e (mC (.int 1)))))]))) (gN 10) m__law_model_1)
    (mSeq (mAsgO (mDisp .lst []) 11)
    (mSeq (mFor (itRng1 (.e (mCall1 m__law_draw 0 [(.e (mOp addD (.e (mOp ixD (.e (mVar 2)) (.e (mC (.int 1))))) (.e (mC (.int 1)))))]))) (gN 10) m__law_model_2)
    (mSeq (mAsgO (mDisp .lst []) 13)
    (mSeq (mFor (itRng1 (.e (mCall1 m__law_draw 0 [(.e (mOp addD (.e (mOp ixD (.e (mVar 2)) (.e (mC (.int 2))))) (.e (mC (.int 1)))))]))) (gN 10) m__law_model_3)
    (mRet (mDisp .tup [(.e (mVar 6)), (.e (mVar 7)), (.e (mCB tupF [(.s 9)])), (.e (mCB tupF [(.s 11)])), (.e (mCB tupF [(.s 13)]))])))))))))))
def m__law_model : List D → Option (D × D) := runFn1 14 5 m__law_model_B
def m_law_1 : MS := (mSeq (mAsg (mOp ixD (.e (mOp ixD (.e (mVar 2)) (.e (mC (.int 1))))) (.e (mCall1 m__law_draw 1 [(.e (mCB lenF [(.e (mOp ixD (.e (mVar 2)) (.e (mC (.int 1)))))]))]))) (gN 14))
    (mExpr (mMut appF 12 [(.e (mDisp .tup [(.e (mCall1 m__law_number 1 [(.e (mC (.int 0)))])), (.e (mVar 14)), (.e (mCall1 m__law_some_sector 1 [(.e (mOp ixD (.e (mVar 2)) (.e (mC (.int 0))))), (.e (mC (.int 2))), (.e (mC (.int 2)))]))]))])))
def m_law_2 : MS := (mSeq (mAsgO (mDisp .lst []) 12)
    (mSeq (mFor (itRng1 (.e (mOp addD (.e (mC (.int 1))) (.e (mCall1 m__law_draw 1 [(.e (mC (.int 4)))]))))) (gN 13) m_law_1)
    (mSeq (mAsg (mDisp .tup [(.e (mC (.str "sum"))), (.e (mCB tupF [(.s 12)])), (.e (mOp ixD (.e (mDisp .lst [(.e (mC (.str ">="))), (.e (mC (.str "=")))])) (.e (mOp fdivD (.e (mVar 11)) (.e (mC (.int 2)))))))]) (gN 15))
    (mSeq (mAsg (mCall0 m_contributions [(.e (mVar 3)), (.e (mVar 15))]) (gN 16))
    (mSeq (mIfS (mNot (mTru (.e (mCall0 (m__law_same FUEL__law_same) [(.e (mCB tupF [(.e (mLc (itSeq (mVar 16)) (gN 17) mYes (mSl (.e (mVar 17)) oNone (oSome (mC (.int 3)))) [17]))])), (.e (mCB tupF [(.e (mVar 8))]))])))) (mRet (mC (.bl false))) mPass)
    (mSeq (mAsg (mCall0 m__law_value [(.e (mVar 3)), (.e (mVar 4)), (.e (mVar 7)), (.e (mVar 15))]) (gN 18))
    (mSeq (mIfS (mOr (mNot (mTru (.e (mCall0 (m__law_same FUEL__law_same) [(.e (mCall0 m_value [(.e (mVar 3)), (.e (mVar 6)), (.e (mVar 15))])), (.e (mVar 18))])))) (mTest (mOp neD (.e (mCall0 m__law_total [(.e (mVar 9)), (.e (mVar 16))])) (.e (mVar 18))))) (mRet (mC (.bl false))) mPass)
    (mSeq (mIfS (mAnd (mTest (mOp (eqE id) (.e (mLc (itSeq (mVar 16)) (gN 17) (mTest (mOp ltD (.e (mOp ixD (.e (mVar 17)) (.e (mC (.int 3))))) (.e (mC (.int 0))))) (mVar 17) [17])) (.e (mDisp .lst [])))) (mTest (mOp ltD (.e (mVar 18)) (.e (mC (.int 0)))))) (mRet (mC (.bl false))) mPass)
    (mSeq (mIfS (mTest (mOp neD (.e (mCall0 m__law_total [(.e (mCall0 (fun ds => m_flows (ds ++ [.non])) [(.e (mVar 10)), (.e (mVar 6))])), (.e (mCall0 m_contributions [(.e (mVar 10)), (.e (mVar 15))]))])) (.e (mVar 18)))) (mRet (mC (.bl false))) mPass)
    (mIfS (mNot (mTru (.e (mCall0 m__law_one_by_one [(.e (mVar 3)), (.e (mVar 16)), (.e (mVar 15))])))) (mRet (mC (.bl false))) mPass))))))))))
def m_law_B : MS := (mSeq (mAsgO (mCall0 m__law_tape [(.e (mVar 0))]) 1)
    (mSeq (mAsg (mCall1 m__law_lists 1 [(.e (mDisp .tup [(.e (mC (.int 3))), (.e (mC (.int 3)))]))]) (gN 2))
    (mSeq (mAsg (mCall1 m__law_model 1 [(.e (mVar 2)), (.e (mDisp .tup [(.e (mC (.int 3))), (.e (mC (.int 0))), (.e (mC (.int 0)))])), (.e (mC (.int 1))), (.e (mC (.int 2))), (.e (mCall1 m__law_draw 1 [(.e (mC (.int 2)))]))]) (gN 3))
    (mSeq (mAsg (mCall1 m__law_people 1 [(.e (mOp ixD (.e (mVar 2)) (.e (mC (.int 0))))), (.e (mCall1 m__law_crowd 1 [(.e (mC (.int 9))), (.e (mC (.int 16)))]))]) (gN 4))
    (mSeq (mAsg (mCall1 m__law_deals 1 [(.e (mVar 3)), (.e (mVar 4)), (.e (mOp ixD (.e (mDisp .lst [(.e (mC (.int 2))), (.e (mC (.int 4))), (.e (mC (.int 10)))])) (.e (mCall1 m__law_draw 1 [(.e (mC (.int 3)))]))))]) (gN 5))
    (mSeq (mAsg (mDisp .tup [(.e (mCB tupF [(.e (mVar 4))])), (.e (mCB tupF [(.e (mVar 5))]))]) (gN 6))
    (mSeq (mAsg (mCall0 m__law_posted [(.e (mVar 3)), (.e (mVar 4)), (.e (mVar 5))]) (gN 7))
    (mSeq (mAsg (mCall0 m__law_units [(.e (mVar 3)), (.e (mC .non))]) (gN 8))
    (mSeq (mIfS (mNot (mTru (.e (mCall0 (m__law_same FUEL__law_same) [(.e (mCall0 m_unit_transactions [(.e (mVar 3)), (.e (mC .non))])), (.e (mCB tupF [(.e (mVar 8))]))])))) (mRet (mC (.bl false))) mPass)
    (mSeq (mAsg (mCall0 (fun ds => m_flows (ds ++ [.non])) [(.e (mVar 3)), (.e (mVar 6))]) (gN 9))
    (mSeq (mIfS (mNot (mTru (.e (mCall0 (m__law_same FUEL__law_same) [(.e (mVar 9)), (.e (mCall0 m__law_flows [(.e (mVar 3)), (.e (mVar 4)), (.e (mVar 5)), (.e (mC .non))]))])))) (mRet (mC (.bl false))) mPass)
    (mSeq (mAsg (mCall0 m__law_countered [(.e (mVar 2)), (.e (mVar 3))]) (gN 10))
    (mSeq (mIfS (mNot (mTru (.e (mCall0 (m__law_same FUEL__law_same) [(.e (mCall0 m_unit_transactions [(.e (mVar 10)), (.e (mC .non))])), (.e (mCB tupF [(.e (mCall0 m__law_units [(.e (mVar 10)), (.e (mC .non))]))]))])))) (mRet (mC (.bl false))) mPass)
    (mSeq (mFor (itRng1 (.e (mC (.int 3)))) (gN 11) m_law_2)
    (mRet (mC (.bl true)))))))))))))))))
def m_law : List D → Option D := runFn0 19 1 m_law_B
end Mir
namespace Mir
open PySem L2
/-! ### the tape -/
def Tape (n : Nat) (d : D) : Prop := ∃ (cells : List Int) (place number total : Int), d = .lst [.lst (cells.map D.int), .int place, .int number, .int total] ∧ 0 ≤ place ∧ place ≤ n ∧ 0 ≤ number ∧ 0 ≤ total ∧ total < 2 ^ 31
theorem Tape.mono {n m : Nat} {d : D} (h : Tape n d) (l : n ≤ m) : Tape m d := by
  obtain ⟨c, p, nu, t, h1, h2, h3, h4⟩ := h
  exact ⟨c, p, nu, t, h1, h2, by omega, h4⟩
theorem lg1 : Nat.log2 48271 < 64 := by decide
theorem lg2 : Nat.log2 69621 < 64 := by decide
theorem lg3 : Nat.log2 31 < 64 := by decide
theorem draw_ok {n : Nat} {tp : D} {many : Int} (hn : n < 2 ^ 60) (h : Tape n tp) (hm : many.natAbs < 2 ^ 60) : W (m__law_draw [tp, .int many]) fun r tp' => Tape (n + 1) tp' ∧ ∃ k : Int, r = .int k ∧ 0 ≤ k ∧ k < max many 1 := by
  obtain ⟨cells, place, number, total, rfl, h1, h2, h3, h4, h5⟩ := h
  have m1 : 0 < if many < 1 then 1 else many := by split <;> omega
  have m1' : (if many < 1 then 1 else many) = max many 1 := by omega
  have m2 : (0 < if many < 2 then 2 else many) ∧ (if many < 2 then 2 else many).natAbs.log2 < 9000 := by
    refine ⟨by split <;> omega, ?_⟩
    have : (if many < 2 then 2 else many).natAbs.log2 ≤ 64 := log64 (by split <;> omega)
    omega
  have fin : ∀ x : Int, (0 ≤ x % max many 1) ∧ (x % max many 1) < max many 1 := fun x => ⟨Int.emod_nonneg _ (by omega), Int.emod_lt_of_pos _ (by omega)⟩
  have lp : place.natAbs.log2 ≤ 64 := log64 (by omega)
  have lt : total.natAbs.log2 ≤ 64 := log64 (by omega)
  have l1 := lg1
  have l2 := lg2
  have dv : ∀ x : Int, 0 ≤ x → 0 ≤ x / (if many < 2 then 2 else many) := fun x hx => Int.ediv_nonneg hx (by omega)
  unfold m__law_draw
  refine w_run1 rfl ?_
  unfold m__law_draw_B
  simp [w_seqI]
  refine ⟨fun h0 => ⟨fun hp => ?_, fun hp => ?_⟩, fun h0 => ?_⟩
  · refine wo_ixM h1 hp fun c _ => ?_
    simp
    have ha : 0 ≤ (if c < 0 then -c else c) := by split <;> omega
    generalize (if c < 0 then -c else c) = a at ha
    refine ⟨fun hlt => ?_, fun hge => ?_⟩
    · have a1 : a.natAbs.log2 ≤ 64 := log64 (by omega)
      have a2 : ((a * 48271 + place * 69621 + 5) % 2147483647).natAbs.log2 ≤ 64 := log64 (by omega)
      exact ⟨by omega, by omega, by omega, m1, ⟨cells, place + 1, number, total, rfl, by omega, by omega, h3, h4, h5⟩, by rw [m1']; exact fin _⟩
    · exact ⟨m2, m1, ⟨cells, place + 1, _, total, rfl, by omega, by omega, dv _ ha, h4, h5⟩, by rw [m1']; exact fin _⟩
  · have a0 : ((total * 48271 + place + 1) % 2147483647).natAbs.log2 ≤ 64 := log64 (by omega)
    refine ⟨by omega, fun hlt => ?_, fun hge => ?_⟩
    · have a2 : (((total * 48271 + place + 1) % 2147483647 * 48271 + place * 69621 + 5) % 2147483647).natAbs.log2 ≤ 64 := log64 (by omega)
      exact ⟨by omega, by omega, by omega, m1, ⟨cells, place + 1, number, _, rfl, by omega, by omega, h3, by omega, by omega⟩, by rw [m1']; exact fin _⟩
    · exact ⟨m2, m1, ⟨cells, place + 1, _, _, rfl, by omega, by omega, dv _ (by omega), by omega, by omega⟩, by rw [m1']; exact fin _⟩
  · exact ⟨m2, m1, ⟨cells, place, _, total, rfl, by omega, by omega, dv _ h3, h4, h5⟩, by rw [m1']; exact fin _⟩
def J_tape (ns : List Int) (i : Nat) (e : Env) : Prop := ∃ (t : Int) (a : Sl), e = [.val (.scr ns), .val (.int t), a] ∧ Pl a ∧ 0 ≤ t ∧ t < 2 ^ 31
theorem tape_ok {ns : List Int} : Wo (m__law_tape [.scr ns]) (Tape 0) := by
  unfold m__law_tape
  refine w_runN rfl ?_
  unfold m__law_tape_B
  simp [w_seqI]
  refine w_for.mpr ?_
  simp
  refine wfor_inv (J_tape ns) ⟨7, .un, rfl, Pl_un, by omega, by omega⟩ (fun i d e hd ⟨t, a, he, ha, h1, h2⟩ => ?_) (fun e ⟨t, a, he, ha, h1, h2⟩ => ?_)
  · subst he
    rw [List.getElem?_map] at hd
    obtain ⟨c, hc, rfl⟩ := Option.map_eq_some_iff.mp hd
    have lt : t.natAbs.log2 ≤ 64 := log64 (by omega)
    have l3 := lg3
    simp [setV_pl, ha, m__law_tape_1]
    exact ⟨by omega, _, _, rfl, Pl_val, by omega, by omega⟩
  · subst he
    simp
    exact ⟨ns, 0, 0, t, rfl, by omega, by omega, by omega, h1, h2⟩
/-! ### texts -/
theorem ofString_inj {a b : String} : (Str.ofString a = Str.ofString b) ↔ a = b := by
  refine ⟨fun h => ?_, fun h => by rw [h]⟩
  rw [Str.ofString_eq_toList, Str.ofString_eq_toList] at h
  injection h with h
  have h2 : a.toList.map Char.toNat = b.toList.map Char.toNat := by
    have := congrArg Array.toList h
    simpa using this
  have h3 : a.toList = b.toList := by
    refine List.map_inj_right (f := Char.toNat) (fun x y e => ?_) |>.mp h2
    exact Char.ext (UInt32.toNat_inj.mp e)
  exact String.toList_inj.mp h3
theorem eqF_strs {z : Str} : ∀ ys : List Str, ((ys.map D.str).any fun y => eqF y (.str z)) = ys.contains z
  | [] => rfl
  | y :: ys => by
    rw [List.map_cons, List.any_cons, eqF_strs ys, List.contains_cons]
    congr 1
    show (y == z) = (z == y)
    rw [Bool.eq_iff_iff, beq_iff_eq, beq_iff_eq]
    exact eq_comm
theorem sc_strs (ys : List Str) : (ys.map D.str).all D.sc = true := by
  rw [List.all_map]; exact List.all_eq_true.mpr fun _ _ => rfl
theorem wo_inL {R : D → Prop} {z : Str} {ys : List Str} : Wo (inD false (.str z) (.lst (ys.map D.str))) R ↔ R (.bl (ys.contains z)) := by
  have e : inD false (.str z) (.lst (ys.map D.str)) = some (.bl (ys.contains z)) := by
    unfold inD
    dsimp only [itemsOf]
    rw [if_pos ⟨rfl, sc_strs ys⟩, eqF_strs]
    rfl
  rw [e, Wo_some]
theorem wo_niL {R : D → Prop} {z : Str} {ys : List Str} : Wo (inD true (.str z) (.lst (ys.map D.str))) R ↔ R (.bl (!ys.contains z)) := by
  have e : inD true (.str z) (.lst (ys.map D.str)) = some (.bl (!ys.contains z)) := by
    unfold inD
    dsimp only [itemsOf]
    rw [if_pos ⟨rfl, sc_strs ys⟩, eqF_strs]
    rfl
  rw [e, Wo_some]
theorem wo_inT {R : D → Prop} {z : Str} {ys : List Str} : Wo (inD false (.str z) (.tup (ys.map D.str))) R ↔ R (.bl (ys.contains z)) := wo_inL
theorem wo_niT {R : D → Prop} {z : Str} {ys : List Str} : Wo (inD true (.str z) (.tup (ys.map D.str))) R ↔ R (.bl (!ys.contains z)) := wo_niL
theorem wo_ixS {R : D → Prop} {x : Str} {i : Int} (hx : x.length ≤ 100000) (h0 : 0 ≤ i) (h1 : i < x.length) (q : ∀ c, x.cps.toList[i.toNat]? = some c → R (.str ⟨#[c]⟩)) : Wo (ixD (.str x) (.int i)) R := by
  have hl : i.toNat < x.cps.toList.length := by
    have : x.cps.toList.length = x.length := by simp [Str.length]
    omega
  have hc := List.getElem?_eq_getElem hl
  have e : ixD (.str x) (.int i) = some (.str ⟨#[x.cps.toList[i.toNat]]⟩) := by
    unfold ixD
    dsimp only
    rw [if_pos hx]
    have : L2.atI x.cps.toList i = some x.cps.toList[i.toNat] := by
      unfold L2.atI
      rw [ixN_pos h0 (by omega)]
      exact hc
    rw [this]
  rw [e, Wo_some]
  exact q _ hc
theorem strsOf_map : ∀ ys : List Str, strsOf (ys.map D.str) = some ys
  | [] => rfl
  | y :: ys => by simp [strsOf, strsOf_map ys]
theorem letters_ok : m__law_letters [] = some (.str "abcdefghijklmnopqrstuvwxyz") := rfl
theorem letters_len : (Str.ofString "abcdefghijklmnopqrstuvwxyz").length = 26 := by decide +kernel
theorem sum_one : ∀ cs : List Nat, ((cs.map fun c : Nat => (⟨#[c]⟩ : Str)).map (·.length)).sum = cs.length
  | [] => rfl
  | c :: cs => by
    simp only [List.map_cons, List.sum_cons, sum_one cs, List.length_cons]
    show 1 + _ = _
    omega
theorem strOk_app {a b : Str} (h1 : PyData.strOk a = true) (h2 : PyData.strOk b = true) : PyData.strOk (a ++ b) = true := by
  show ((a.cps ++ b.cps).all fun c => decide (c < 0x110000)) = true
  rw [Array.all_append, Bool.and_eq_true]
  exact ⟨h1, h2⟩
theorem strOk_one {c : Nat} (h : c < 1000) : PyData.strOk ⟨#[c]⟩ = true := by
  show (#[c].all fun c => decide (c < 0x110000)) = true
  simp
  omega
theorem letters_small : ∀ c ∈ (Str.ofString "abcdefghijklmnopqrstuvwxyz").cps.toList, c < 1000 := by decide +kernel
theorem glue_ok : ∀ (ps : List Str) (acc : Str), PyData.strOk acc = true → (∀ p ∈ ps, PyData.strOk p = true) → PyData.strOk ⟨ps.foldl (fun a p => a ++ (Str.ofString "").cps ++ p.cps) acc.cps⟩ = true
  | [], acc, h, _ => h
  | p :: ps, acc, h, k => by
    rw [List.foldl_cons]
    exact glue_ok ps (acc ++ "" ++ p) (strOk_app (strOk_app h (by decide +kernel)) (k p (by simp))) fun q hq => k q (by simp [hq])
theorem join_strOk {ss : List Str} (h : ∀ s ∈ ss, PyData.strOk s = true) : PyData.strOk (Builtin.Str.glued "" ss) = true := by
  unfold Builtin.Str.glued
  cases ss with
  | nil => decide +kernel
  | cons s ss => exact glue_ok ss s (h s (by simp)) fun q hq => h q (by simp [hq])
theorem run_ok {n : Nat} {tp : D} {size : Int} (hn : n < 2 ^ 50) (h : Tape n tp) (h0 : 0 ≤ size) (h1 : size ≤ 20) : W (m__law_run [tp, .int size]) fun r tp' => Tape (n + 20) tp' ∧ ∃ s : Str, r = .str s ∧ s.length ≤ 20 ∧ PyData.strOk s = true := by
  unfold m__law_run
  refine w_run1 rfl ?_
  unfold m__law_run_B
  simp [w_seqI]
  refine wlc_stE (fun tp => [.own true tp, .val (.int size), .un]) (fun j tp => Tape (n + j) tp) (fun _ y => ∃ c : Nat, y = .str ⟨#[c]⟩ ∧ c < 1000) ?_
  simp [backE]
  refine ⟨by omega, by rw [rngL_length]; omega, h, fun j d1 tp1 hd1 ht1 => ?_, fun acc tp1 ht1 hacc hP => ?_⟩
  · have hj : j < 20 := by
      have := (List.getElem?_eq_some_iff.mp hd1).1
      rw [rngL_length] at this; omega
    rw [letters_ok, Wo_some]
    refine (draw_ok (by omega) ht1 (by decide)).mono fun r tp' ⟨ht, k, hk, hk0, hk1⟩ => ?_
    subst hk
    refine wo_ixS (by rw [letters_len]; decide) hk0 (by rw [letters_len]; omega) fun c hc => ?_
    exact ⟨⟨c, rfl, letters_small c (List.mem_of_getElem? hc)⟩, ht⟩
  · rw [rngL_length] at hacc ht1
    obtain ⟨cs, rfl, hcl, hcs⟩ := allD (enc := fun c : Nat => D.str ⟨#[c]⟩) (P := fun _ c => c < 1000) hacc fun i y hi hy => by
      obtain ⟨c, hc, hc1⟩ := hP i _ y (List.getElem?_eq_getElem (by rw [rngL_length]; exact hi)) hy
      exact ⟨c, hc, hc1⟩
    have es : cs.map (fun c : Nat => D.str ⟨#[c]⟩) = (cs.map fun c : Nat => (⟨#[c]⟩ : Str)).map D.str := by simp [Function.comp_def]
    have hsum := sum_one cs
    have hj : joinF "" [.lst (cs.map fun c : Nat => D.str ⟨#[c]⟩)] = some (.str (Txt.join "" (cs.map fun c : Nat => (⟨#[c]⟩ : Str)))) := by
      unfold joinF
      dsimp only [itemsOf]
      rw [es, strsOf_map]
      dsimp only
      rw [if_pos]
      rw [hsum]
      show cs.length + _ * (Str.ofString "").length ≤ _
      have : (Str.ofString "").length = 0 := by decide +kernel
      rw [this]; omega
    rw [hj, Wo_some]
    refine ⟨ht1.mono (by omega), _, rfl, ?_, join_strOk fun s hs => ?_⟩
    rotate_left
    · obtain ⟨c, hc, rfl⟩ := List.mem_map.mp hs
      obtain ⟨i, hi⟩ := List.getElem?_of_mem hc
      exact strOk_one (hcs i c hi)
    show (Builtin.Str.glued "" _).length ≤ 20
    rw [StrLaws.glued_eq_join]
    refine Nat.le_trans (StrLaws.join_length_le _ _) ?_
    rw [hsum]
    have : (Str.ofString "").length = 0 := by decide +kernel
    rw [this]; omega
theorem reserved_ok : Wo (m__law_reserved []) fun r => ∃ ys : List Str, r = .lst (ys.map D.str) := by
  unfold m__law_reserved
  refine w_run0 rfl ?_
  unfold m__law_reserved_B
  simp [w_seqI]
  refine ⟨by decide +kernel, ?_⟩
  unfold splitF
  dsimp only
  rw [if_pos (by decide +kernel), Wo_some]
  exact ⟨_, rfl⟩
end Mir
namespace Mir
open PySem L2
theorem wo_ixAnyT {R : D → Prop} {ds : List D} {i : Int} (h0 : 0 ≤ i) (h1 : i < ds.length) (q : ∀ d ∈ ds, R d) : Wo (ixD (.tup ds) (.int i)) R := by
  have hl : i.toNat < ds.length := by omega
  exact (wo_ixT h0 (List.getElem?_eq_getElem hl)).mpr (q _ (List.getElem_mem hl))
theorem w_popAt {Q : D → D → Prop} {ds : List D} {i : Int} (h0 : 0 ≤ i) (h1 : i < ds.length) (h2 : i < 100000) (q : ∀ y, ds[i.toNat]? = some y → Q y (.lst (ds.eraseIdx i.toNat))) : W (popAtF (.lst ds) [.int i]) Q := by
  have hl : i.toNat < ds.length := by omega
  have hc := List.getElem?_eq_getElem hl
  have e : popAtF (.lst ds) [.int i] = some (ds[i.toNat], .lst (ds.eraseIdx i.toNat)) := by
    unfold popAtF
    dsimp only
    rw [if_pos ⟨h0, h2⟩, hc]
  rw [e, W_some]
  exact q _ hc
abbrev cD (c : Nat) : D := .str ⟨#[c]⟩
theorem cps_mid {st r : Str} {c : Nat} : (st ++ ⟨#[c]⟩ ++ r : Str).cps[st.length]? = some c := by
  show ((st.cps ++ #[c]) ++ r.cps)[st.cps.size]? = some c
  rw [Array.getElem?_append_left (by simp)]
  simp
theorem cps_mid0 {st : Str} {c : Nat} : (st ++ ⟨#[c]⟩ : Str).cps[st.length]? = some c := by
  show (st.cps ++ #[c])[st.cps.size]? = some c
  simp
theorem cps_keep {a b : Str} {i c : Nat} (h : a.cps[i]? = some c) : (a ++ b : Str).cps[i]? = some c := by
  show (a.cps ++ b.cps)[i]? = some c
  have hl : i < a.cps.size := (Array.getElem?_eq_some_iff.mp h).1
  rw [Array.getElem?_append_left hl]; exact h
theorem nodup_of_map {α β : Type} {f : α → β} : ∀ {xs : List α}, (xs.map f).Nodup → xs.Nodup
  | [], _ => List.nodup_nil
  | x :: xs, h => by
    rw [List.map_cons, List.nodup_cons] at h
    rw [List.nodup_cons]
    exact ⟨fun hx => h.1 (List.mem_map_of_mem hx), nodup_of_map h.2⟩
theorem nodup_some {xs : List Nat} (h : xs.Nodup) : (xs.map some).Nodup := by
  induction xs with
  | nil => exact List.nodup_nil
  | cons x xs ih =>
    rw [List.nodup_cons] at h
    rw [List.map_cons, List.nodup_cons]
    refine ⟨fun hx => ?_, ih h.2⟩
    obtain ⟨y, hy, e⟩ := List.mem_map.mp hx
    cases e
    exact h.1 hy
theorem nodup_set {α : Type} {xs : List α} {w : α} (h : xs.Nodup) (hw : w ∉ xs) : ∀ k, (xs.set k w).Nodup := by
  induction xs with
  | nil => intro k; exact List.nodup_nil
  | cons x xs ih =>
    intro k
    rw [List.nodup_cons] at h
    cases k with
    | zero => exact List.nodup_cons.mpr ⟨fun z => hw (by simp [z]), h.2⟩
    | succ k =>
      refine List.nodup_cons.mpr ⟨fun z => ?_, ih h.2 (fun z => hw (by simp [z])) k⟩
      rcases List.mem_or_eq_of_mem_set z with z | z
      · exact h.1 z
      · exact hw (by simp [z])
theorem perm_erase : ∀ {left : List Nat} {k c : Nat}, left[k]? = some c → List.Perm left (c :: left.eraseIdx k)
  | x :: xs, 0, c, h => by simp at h; subst h; exact List.Perm.refl _
  | x :: xs, k + 1, c, h => by
    have := perm_erase (left := xs) (k := k) (c := c) (by simpa using h)
    exact (this.cons x).trans (List.Perm.swap ..)
  | [], k, c, h => by simp at h
theorem erase_map : ∀ (left : List Nat) (k : Nat), (left.map cD).eraseIdx k = (left.eraseIdx k).map cD
  | [], _ => rfl
  | x :: xs, 0 => rfl
  | x :: xs, k + 1 => by simp [erase_map xs k]
theorem nodup_move {used left : List Nat} {k : Nat} {c : Nat} (h : (used ++ left).Nodup) (hc : left[k]? = some c) : ((used ++ [c]) ++ left.eraseIdx k).Nodup := by
  have hk : k < left.length := (List.getElem?_eq_some_iff.mp hc).1
  have hck : left[k] = c := (List.getElem?_eq_some_iff.mp hc).2
  have p : List.Perm left (c :: left.eraseIdx k) := by
    exact perm_erase hc
  have p2 : List.Perm (used ++ left) ((used ++ [c]) ++ left.eraseIdx k) := by
    rw [List.append_assoc]
    exact p.append_left used
  exact p2.nodup_iff.mp h
def J_nm (n : Nat) (many : Int) (stems words res : D) (st : Str) (i : Nat) (e : Env) : Prop := ∃ (tp : D) (used left : List Nat) (names : List Str) (a b c : Sl), e = [.own true tp, .val (.int many), .val stems, .val (.str st), .val words, .val res, .own false (.lst (left.map cD)), .own false (.lst (names.map D.str)), a, b, c] ∧ Tape (n + 30 * i) tp ∧ used.length = i ∧ left.length = 26 - i ∧ (used ++ left).Nodup ∧ names.map (fun s : Str => s.cps[st.length]?) = used.map some ∧ (∀ s ∈ names, s.length ≤ 60 ∧ PyData.strOk s = true) ∧ (∀ c ∈ left, c < 1000) ∧ Pl a ∧ Pl b ∧ Pl c
def J_nw (n : Nat) (many : Int) (stems words res lf : D) (st : Str) (i : Nat) (e : Env) : Prop := ∃ (tp : D) (names : List Str) (a b c : Sl), e = [.own true tp, .val (.int many), .val stems, .val (.str st), .val words, .val res, .own false lf, .own false (.lst (names.map D.str)), a, b, c] ∧ Tape (n + i) tp ∧ names.Nodup ∧ names.length = many.toNat ∧ (∀ s ∈ names, s.length ≤ 60 ∧ PyData.strOk s = true) ∧ Pl a ∧ Pl b ∧ Pl c
theorem str1_len {c : Nat} : (⟨#[c]⟩ : Str).length = 1 := rfl
theorem x_len : (Str.ofString "x").length = 1 := by decide +kernel
theorem names_ok {n : Nat} {tp : D} {many : Int} (hn : n < 2 ^ 48) (h : Tape n tp) (h0 : 0 ≤ many) (h1 : many ≤ 25) : W (m__law_names [tp, .int many]) fun r tp' => Tape (n + 1000) tp' ∧ ∃ names : List Str, r = .lst (names.map D.str) ∧ names.length = many.toNat ∧ names.Nodup ∧ ∀ s ∈ names, s.length ≤ 60 ∧ PyData.strOk s = true := by
  unfold m__law_names
  refine w_run1 rfl ?_
  unfold m__law_names_B
  refine w_seq ?_
  simp
  refine (draw_ok (by omega) h (by decide)).mono fun r tp1 ⟨ht1, k1, hk, hk0, hk1⟩ => ?_
  subst hk
  refine (run_ok (by omega) ht1 hk0 (by omega)).mono fun r tp2 ⟨ht2, s1, hs1, hl1, hk1'⟩ => ?_
  subst hs1
  refine (run_ok (by omega) ht2 (by decide) (by decide)).mono fun r tp3 ⟨ht3, s2, hs2, hl2, hk2'⟩ => ?_
  subst hs2
  refine w_seq ?_
  simp
  refine (draw_ok (by omega) ht3 (by decide)).mono fun r tp4 ⟨ht4, k2, hk, hj0, hj1⟩ => ?_
  subst hk
  refine wo_ixAny hj0 (by simp; omega) fun d hd => ?_
  have hd' : ∃ st : Str, d = .str st ∧ st.length ≤ 20 ∧ PyData.strOk st = true := by
    simp at hd
    rcases hd with rfl | rfl | rfl | rfl | rfl | rfl | rfl <;> first | exact ⟨_, rfl, by decide +kernel, by decide +kernel⟩ | exact ⟨_, rfl, hl1, hk1'⟩ | exact ⟨_, rfl, hl2, hk2'⟩
  obtain ⟨st, rfl, hst, hsto⟩ := hd'
  refine w_seq ?_
  simp
  refine w_seq ?_
  simp
  refine reserved_ok.mono fun res hres => ?_
  obtain ⟨rs, rfl⟩ := hres
  refine w_seq ?_
  simp
  rw [letters_ok, Wo_some]
  simp
  refine ⟨by rw [letters_len]; decide, ?_⟩
  refine w_seq ?_
  simp
  refine w_seq ?_
  refine w_for.mpr ?_
  simp
  have hch : ∃ l : List Nat, chrD "abcdefghijklmnopqrstuvwxyz" = l.map cD ∧ l.Nodup ∧ l.length = 26 ∧ ∀ c ∈ l, c < 1000 := ⟨(Str.ofString "abcdefghijklmnopqrstuvwxyz").cps.toList, rfl, by decide +kernel, by decide +kernel, letters_small⟩
  obtain ⟨l0, hl0, hnd0, hlen0, hsm0⟩ := hch
  rw [hl0]
  obtain ⟨stems, hstems⟩ : ∃ x, x = D.lst [D.str "", D.str "", D.str "", D.str "al", D.str "no", D.str "claim", D.str "sector", D.str s1, D.str s2] := ⟨_, rfl⟩
  rw [← hstems]
  obtain ⟨words, hwords⟩ : ∃ x, x = D.lst [D.str "sector", D.str "sum", D.str "number", D.str "end", D.str "name", D.str "symbol", D.str "invalid", D.str "holds"] := ⟨_, rfl⟩
  rw [← hwords]
  refine ⟨by omega, ?_⟩
  refine wfor_inv (J_nm (n + 50) many stems words (.lst (rs.map D.str)) st) ⟨tp4, [], l0, [], .un, .un, .un, rfl, ht4.mono (by omega), rfl, hlen0, hnd0, rfl, fun s hs => (by cases hs), hsm0, by simp⟩ (fun i d e hd ⟨tp, used, left, names, a, b, c, he, ht, hu, hlf, hnd, hmap, hlen, hsm, ha, hb, hc⟩ => ?_) (fun e ⟨tp, used, left, names, a, b, c, he, ht, hu, hlf, hnd, hmap, hlen, hsm, ha, hb, hc⟩ => ?_)
  · subst he
    have hi : i < 25 := by
      have := (List.getElem?_eq_some_iff.mp hd).1
      rw [rngL_length] at this; omega
    rw [wo_gN]
    simp [setV_pl, ha]
    unfold m__law_names_1
    refine w_seq ?_
    simp
    refine (draw_ok (by omega) ht (by omega)).mono fun r tp1 ⟨ht1, k, hk, hk0, hk1⟩ => ?_
    subst hk
    refine w_popAt hk0 (by rw [List.length_map]; omega) (by omega) fun y hy => ?_
    rw [List.getElem?_map] at hy
    obtain ⟨cc, hcc, rfl⟩ := Option.map_eq_some_iff.mp hy
    simp [setV_pl, hb]
    refine ⟨by rw [str1_len]; omega, ?_⟩
    refine w_seq ?_
    simp
    refine (draw_ok (by omega) ht1 (by decide)).mono fun r tp2 ⟨ht2, k2, hk, hk20, hk21⟩ => ?_
    subst hk
    refine wo_ixAny hk20 (by simp; omega) fun sz hsz => ?_
    have hsz' : ∃ z : Int, sz = .int z ∧ 0 ≤ z ∧ z ≤ 20 := by
      simp at hsz
      rcases hsz with rfl | rfl | rfl <;> exact ⟨_, rfl, by omega, by omega⟩
    obtain ⟨z, rfl, hz0, hz1⟩ := hsz'
    refine (run_ok (by omega) ht2 hz0 hz1).mono fun r tp3 ⟨ht3, s3, hs3, hl3, hk3⟩ => ?_
    subst hs3
    simp
    rw [Str.length_append, str1_len]
    refine ⟨by omega, ?_⟩
    refine w_seq ?_
    refine W.mono (Q := fun fl e => fl = .nx ∧ ∃ nm : Str, e = [.own true tp3, .val (.int many), .val stems, .val (.str st), .val words, .val (.lst (rs.map D.str)), .own false (.lst ((left.map cD).eraseIdx k.toNat)), .own false (.lst (names.map D.str)), .val d, .val (.str nm), c] ∧ nm.cps[st.length]? = some cc ∧ nm.length ≤ 60 ∧ PyData.strOk nm = true) ?_ (fun fl e ⟨hfl, nm, he, hnm, hnl⟩ => ?_)
    · simp
      rw [wo_inL, blD_b, Wo_some]
      refine ⟨fun _ => ⟨?_, ?_⟩, fun _ => ?_⟩
      · rw [Str.length_append, Str.length_append, str1_len, x_len]; omega
      · exact ⟨cps_keep cps_mid, by rw [Str.length_append, Str.length_append, Str.length_append, str1_len, x_len]; omega, strOk_app (strOk_app (strOk_app hsto (strOk_one (hsm cc (List.mem_of_getElem? hcc)))) hk3) (by decide +kernel)⟩
      · exact ⟨cps_mid, by rw [Str.length_append, Str.length_append, str1_len]; omega, strOk_app (strOk_app hsto (strOk_one (hsm cc (List.mem_of_getElem? hcc)))) hk3⟩
    · subst hfl he
      rw [seqK_nx]
      simp
      have hnl' : names.length = i := by
        have := congrArg List.length hmap
        simpa [hu] using this
      refine ⟨by omega, tp3, used ++ [cc], left.eraseIdx k.toNat, names ++ [nm], .val d, .val (.str nm), c, ?_, ht3.mono (by omega), by simp [hu], ?_, nodup_move hnd hcc, by simp [hmap, hnm], fun s hs => ?_, fun c' hc' => hsm c' (List.mem_of_mem_eraseIdx hc'), Pl_val, Pl_val, hc⟩
      · have e1 : (left.map cD).eraseIdx k.toNat = (left.eraseIdx k.toNat).map cD := erase_map _ _
        rw [e1]; simp
      · rw [List.length_eraseIdx_of_lt (by omega)]; omega
      · rcases List.mem_append.mp hs with hs | hs
        · exact hlen s hs
        · simp at hs; subst hs; exact hnl
  · subst he
    rw [rngL_length] at ht hu
    have hnl' : names.length = many.toNat := by
      have := congrArg List.length hmap
      simpa [hu] using this
    have hndn : names.Nodup := by
      refine nodup_of_map (f := fun s : Str => s.cps[st.length]?) ?_
      rw [hmap]
      exact nodup_some (List.nodup_append.mp hnd).1
    refine w_seq ?_
    refine W.mono (Q := fun fl e => fl = .nx ∧ J_nw (n + 900) many stems words (.lst (rs.map D.str)) (.lst (left.map cD)) st 5 e) ?_ (fun fl e ⟨hfl, tp', names', a', b', c', he, ht', hnd', hnl2, hlen', ha', hb', hc'⟩ => ?_)
    · simp
      refine (draw_ok (by omega) ht (by decide)).mono fun r tp5 ⟨ht5, k5, hk, hk50, hk51⟩ => ?_
      subst hk
      simp
      refine ⟨fun _ => ?_, fun _ => ⟨tp5, names, a, b, c, rfl, ht5.mono (by omega), hndn, hnl', hlen, ha, hb, hc⟩⟩
      refine w_for.mpr ?_
      simp
      have hmn : (-4611686018427387904 ≤ (if 4 < many then 4 else many)) ∧ (if 4 < many then 4 else many) < 4611686018427387904 ∧ (if 4 < many then 4 else many).toNat ≤ 4 ∧ (if 4 < many then 4 else many).toNat ≤ many.toNat := by
        split <;> omega
      obtain ⟨q1, q2, q3, q4⟩ := hmn
      refine ⟨⟨q1, q2⟩, ?_⟩
      refine wfor_inv (J_nw (n + 850) many stems words (.lst (rs.map D.str)) (.lst (left.map cD)) st) ⟨tp5, names, a, b, c, rfl, ht5.mono (by omega), hndn, hnl', hlen, ha, hb, hc⟩ (fun i d e hd ⟨tp, names, a, b, c, he, ht, hnd, hnl, hlen, ha, hb, hc⟩ => ?_) (fun e ⟨tp, names, a, b, c, he, ht, hnd, hnl, hlen, ha, hb, hc⟩ => ?_)
      · subst he
        have hi := (List.getElem?_eq_some_iff.mp hd).1
        rw [rngL_length] at hi
        have hdi := rngL_get hd
        rw [Int.zero_add] at hdi
        subst hdi
        rw [wo_gN]
        simp [setV_pl, ha]
        unfold m__law_names_2
        refine w_seq ?_
        simp
        refine (draw_ok (by omega) ht (by decide)).mono fun r tp6 ⟨ht6, k6, hk, hk60, hk61⟩ => ?_
        subst hk
        rw [hwords]
        refine wo_ixAny hk60 (by simp; omega) fun w hw => ?_
        have hw' : ∃ ws : Str, w = .str ws ∧ ws.length ≤ 60 ∧ PyData.strOk ws = true := by
          simp at hw
          rcases hw with rfl | rfl | rfl | rfl | rfl | rfl | rfl | rfl <;> exact ⟨_, rfl, by decide +kernel, by decide +kernel⟩
        obtain ⟨ws, rfl, hws⟩ := hw'
        rw [← hwords]
        simp [setV_pl, hc]
        rw [wo_niL, blD_b, Wo_some]
        refine ⟨fun hni => ?_, fun _ => ⟨tp6, names, _, b, _, rfl, ht6.mono (by omega), hnd, hnl, hlen, Pl_val, hb, Pl_val⟩⟩
        have hix : L2.ixN (List.map D.str names).length (i : Int) = some i := by
          rw [List.length_map, ixN_pos (by omega) (by omega)]; simp
        refine (wo_set hix).mpr ?_
        have e1 : (List.map D.str names).set i (D.str ws) = (names.set i ws).map D.str := by rw [List.map_set]
        rw [e1]
        refine ⟨tp6, names.set i ws, _, b, _, rfl, ht6.mono (by omega), nodup_set hnd (by simpa using hni) i, by rw [List.length_set]; exact hnl, fun s hs => ?_, Pl_val, hb, Pl_val⟩
        rcases List.mem_or_eq_of_mem_set hs with hs | hs
        · exact hlen s hs
        · rw [hs]; exact hws
      · rw [rngL_length] at ht
        exact ⟨rfl, tp, names, a, b, c, he, ht.mono (by omega), hnd, hnl, hlen, ha, hb, hc⟩
    · subst hfl he
      rw [seqK_nx]
      simp
      exact ⟨ht'.mono (by omega), names', rfl, hnl2, hnd', hlen'⟩
end Mir
namespace Mir
open PySem L2
abbrev tS (ss : List Str) : D := .tup (ss.map D.str)
abbrev nD (q : Nat) : D := .int (q : Nat)
abbrev tN (qs : List Nat) : D := .tup (qs.map nD)
def Sx.d : Sx → D
  | .all => .tup [.str "all"]
  | .none => .tup [.str "none"]
  | .sec s => .tup [.str "sector", .str s]
  | .not x => .tup [.str "not", x.d]
  | .and x y => .tup [.str "and", x.d, y.d]
  | .or x y => .tup [.str "or", x.d, y.d]
def Sx.ok (ss : List Str) : Sx → Prop
  | .sec s => s ∈ ss
  | .not x => x.ok ss
  | .and x y => x.ok ss ∧ y.ok ss
  | .or x y => x.ok ss ∧ y.ok ss
  | _ => True
def Sx.dep : Sx → Nat
  | .not x => x.dep + 1
  | .and x y => max x.dep y.dep + 1
  | .or x y => max x.dep y.dep + 1
  | _ => 1
def Sx.gd (ss : List Str) (b : Nat) (x : Sx) : Prop := x.ok ss ∧ x.dep ≤ b
def opD : Option Nat → D
  | none => .non
  | some q => nD q
theorem rngL0 (n : Nat) : rngL 0 n = (List.range n).map nD := by
  unfold rngL nD
  simp
theorem pow_le {n : Nat} (h : n ≤ 3) : 2 ^ n ≤ 8 := Nat.pow_le_pow_right (by decide) h
theorem ix_facts {ss : List Str} {s : Str} (h : s ∈ ss) : ss.findIdx? (· == s) = some (ix ss s) ∧ ss[ix ss s]? = some s := by
  unfold ix
  cases e : ss.findIdx? (· == s) with
  | none =>
    have := List.findIdx?_eq_none_iff.mp e s h
    simp at this
  | some j => exact ⟨rfl, (find_facts e).1⟩
theorem wo_idxS {R : D → Prop} {ss : List Str} {s : Str} (h : s ∈ ss) : Wo (idxS (.tup (ss.map D.str)) (.str s)) R ↔ R (nD (ix ss s)) := by
  have : idxS (.tup (ss.map D.str)) (.str s) = some (nD (ix ss s)) := by
    unfold idxS
    dsimp only [itemsOf]
    rw [strsOf_map]
    dsimp only
    rw [(ix_facts h).1]
  rw [this, Wo_some]
theorem wo_idxSL {R : D → Prop} {ss : List Str} {s : Str} (h : s ∈ ss) : Wo (idxS (.lst (ss.map D.str)) (.str s)) R ↔ R (nD (ix ss s)) := wo_idxS h
theorem wo_shr {R : D → Prop} {i j : Int} : Wo (shrD (.int i) (.int j)) R ↔ 0 ≤ j ∧ R (.int (i / 2 ^ j.toNat)) := by
  unfold shrD; rw [wo_int2, decide_eq_true_eq]
theorem wo_and1 {R : D → Prop} {a : Nat} : Wo (andD (.int (a : Nat)) (.int 1)) R ↔ R (.int ((a % 2 : Nat) : Int)) := by
  unfold andD
  rw [wo_int2]
  have e : Builtin.bitAnd (a : Int) 1 = ((a % 2 : Nat) : Int) := by
    unfold Builtin.bitAnd
    have : decide ((0 : Int) ≤ (a : Int)) = true := by simp
    rw [this]
    show (((a : Int).toNat &&& (1 : Int).toNat : Nat) : Int) = _
    rw [Int.toNat_natCast]
    show ((a &&& 1 : Nat) : Int) = _
    rw [Nat.and_one_is_mod]
  rw [e]
  simp
theorem bit_val {q j : Nat} : decide (((q / 2 ^ j % 2 : Nat) : Int) = 1) = q.testBit j := by
  rw [Nat.testBit_eq_decide_div_mod_eq]
  rw [decide_eq_decide]
  omega
theorem cast_div {q j : Nat} : ((q : Int) / 2 ^ j : Int) = ((q / 2 ^ j : Nat) : Int) := by
  rw [Int.natCast_ediv, Int.natCast_pow]; rfl
abbrev md (ss : List Str) (m1 m2 m3 m4 : D) : D := .tup [tS ss, m1, m2, m3, m4]
section
variable {ss : List Str} {m1 m2 m3 m4 : D}
def J_cnt (m : D) (i : Nat) (e : Env) : Prop := ∃ a, e = [.val m, .val (.int ((2 ^ i : Nat) : Int)), a] ∧ Pl a
theorem count_ok (hss : ss.length ≤ 3) : Wo (m_profile_count [md ss m1 m2 m3 m4]) fun r => r = nD (2 ^ ss.length) := by
  unfold m_profile_count
  refine w_run0 rfl ?_
  unfold m_profile_count_B
  refine w_seq ?_
  simp
  refine w_seq ?_
  refine w_for.mpr ?_
  simp
  refine wfor_inv (J_cnt (md ss m1 m2 m3 m4)) ⟨.un, rfl, Pl_un⟩ (fun i d e hd ⟨b, he, hb⟩ => ?_) (fun e ⟨b, he, hb⟩ => ?_)
  · subst he
    have hi := (List.getElem?_eq_some_iff.mp hd).1
    rw [List.length_map] at hi
    rw [wo_gN]
    simp [setV_pl, hb]
    unfold m_profile_count_1
    simp
    have l2 : Nat.log2 2 < 64 := by decide
    have hp : (2 ^ i : Nat) ≤ 2 ^ 3 := Nat.pow_le_pow_right (by decide) (by omega)
    have lp : (((2 ^ i : Nat) : Int)).natAbs.log2 ≤ 64 := log64 (by rw [Int.natAbs_natCast]; omega)
    simp at lp
    have e2 : (2 : Int) * 2 ^ i = ((2 ^ (i + 1) : Nat) : Int) := by rw [Int.natCast_pow, Int.pow_succ, Int.mul_comm]; rfl
    rw [e2]
    exact ⟨by omega, _, rfl, Pl_val⟩
  · subst he
    simp
theorem belongs_ok {q : Nat} : ∀ (x : Sx) (fuel : Nat), x.dep ≤ fuel → x.ok ss → Wo (m_belongs fuel [md ss m1 m2 m3 m4, nD q, x.d]) fun r => r = .bl (bl ss q x) := by
  intro x
  induction x with
  | all =>
    intro fuel hf hx
    cases fuel with
    | zero => simp [Sx.dep] at hf
    | succ fuel =>
      unfold m_belongs
      refine w_run0 rfl ?_
      unfold m_belongs_B
      simp [w_seqI, Sx.d, bl, Sx.ev]
  | none =>
    intro fuel hf hx
    cases fuel with
    | zero => simp [Sx.dep] at hf
    | succ fuel =>
      unfold m_belongs
      refine w_run0 rfl ?_
      unfold m_belongs_B
      simp [w_seqI, Sx.d, bl, Sx.ev, ofString_inj]
  | sec s =>
    intro fuel hf hx
    cases fuel with
    | zero => simp [Sx.dep] at hf
    | succ fuel =>
      unfold m_belongs
      refine w_run0 rfl ?_
      unfold m_belongs_B
      simp [w_seqI, Sx.d, bl, Sx.ev, ofString_inj]
      rw [show tupD (tS ss) = some (ss.map D.str) from rfl, Wo_some, wo_idxS hx, wo_shr]
      refine ⟨by omega, ?_⟩
      rw [Int.toNat_natCast, cast_div, wo_and1, wo_eqI, bit_val]
  | not x ih =>
    intro fuel hf hx
    cases fuel with
    | zero => simp [Sx.dep] at hf
    | succ fuel =>
      unfold m_belongs
      refine w_run0 rfl ?_
      unfold m_belongs_B
      simp [w_seqI, Sx.d, ofString_inj]
      refine (ih fuel (by simp [Sx.dep] at hf; omega) hx).mono fun r hr => ?_
      subst hr
      simp [bl, Sx.ev]
  | and x y ihx ihy =>
    intro fuel hf hx
    cases fuel with
    | zero => simp [Sx.dep] at hf
    | succ fuel =>
      unfold m_belongs
      refine w_run0 rfl ?_
      unfold m_belongs_B
      simp [w_seqI, Sx.d, ofString_inj]
      refine (ihx fuel (by simp [Sx.dep] at hf; omega) hx.1).mono fun r hr => ?_
      subst hr
      simp
      refine ⟨fun h1 => ?_, fun h1 => by unfold bl at h1; simp [bl, Sx.ev, h1]⟩
      refine (ihy fuel (by simp [Sx.dep] at hf; omega) hx.2).mono fun r hr => ?_
      subst hr
      unfold bl at h1
      simp [bl, Sx.ev, h1]
  | or x y ihx ihy =>
    intro fuel hf hx
    cases fuel with
    | zero => simp [Sx.dep] at hf
    | succ fuel =>
      unfold m_belongs
      refine w_run0 rfl ?_
      unfold m_belongs_B
      simp [w_seqI, Sx.d, ofString_inj]
      refine (ihx fuel (by simp [Sx.dep] at hf; omega) hx.1).mono fun r hr => ?_
      subst hr
      simp
      refine ⟨fun h1 => by unfold bl at h1; simp [bl, Sx.ev, h1], fun h1 => ?_⟩
      refine (ihy fuel (by simp [Sx.dep] at hf; omega) hx.2).mono fun r hr => ?_
      subst hr
      unfold bl at h1
      simp [bl, Sx.ev, h1]
end
def pNat (p : Nat → Bool) : D → Bool
  | .int k => p k.toNat
  | _ => false
theorem filt_nat (p : Nat → Bool) (xs : List Nat) : (xs.map nD).filter (pNat p) = (xs.filter p).map nD := by
  rw [List.filter_map]
  congr 1
section
variable {env : Env} {Q : D → Env → Prop} {R : List D → Env → Prop} {m : ME} {t : MT} {g : MG} {mi : MI} {vs : List Nat}
theorem wlc_filt {ds : List D} (p : D → Bool) (f : D → D) (h : ∀ d ∈ ds, Wo (g d env) fun e1 => W (t e1) fun b e2 => b = p d ∧ (b = true → W (m e2) fun y e3 => y = f d ∧ wipeE e3 vs = env) ∧ (b = false → wipeE e2 vs = env)) (hn : R ((ds.filter p).map f) env) : W (mLcL g t m vs ds [] env) R := by
  refine wlc_inv (fun i acc e => e = env ∧ acc = ((ds.take i).filter p).map f) ⟨rfl, rfl⟩ (fun i d acc e hd ⟨he, ha⟩ => ?_) (fun acc e ⟨he, ha⟩ => ?_)
  · subst he
    have hi : i < ds.length := (List.getElem?_eq_some_iff.mp hd).1
    have hdi : ds[i] = d := (List.getElem?_eq_some_iff.mp hd).2
    refine (h d (List.mem_of_getElem? hd)).mono fun e1 h1 => h1.mono fun b e2 ⟨hb, h2, h3⟩ => ⟨fun hb1 => (h2 hb1).mono fun y e3 ⟨hy, h4⟩ => ⟨h4, ?_⟩, fun hb0 => ⟨h3 hb0, ?_⟩⟩
    · rw [ha, hy, List.take_add_one, List.getElem?_eq_getElem hi, hdi]
      simp [← hb, hb1]
    · rw [ha, List.take_add_one, List.getElem?_eq_getElem hi, hdi]
      simp [← hb, hb0]
  · rw [he, ha, List.take_length]; exact hn
theorem wlc_filtE (p : D → Bool) (f : D → D) (h : W (mi env) fun ds e => plainAt e vs = true ∧ ds.length ≤ 100000 ∧ (∀ d ∈ ds, Wo (g d (wipeE e vs)) fun e1 => W (t e1) fun b e2 => b = p d ∧ (b = true → W (m e2) fun y e3 => y = f d ∧ wipeE e3 vs = wipeE e vs) ∧ (b = false → wipeE e2 vs = wipeE e vs)) ∧ Q (.lst ((ds.filter p).map f)) (backE e (wipeE e vs) vs)) : W (mLc mi g t m vs env) Q :=
  w_lc.mpr (h.mono fun ds e ⟨h1, h2, h3, h4⟩ => ⟨h1, h2, wlc_filt p f h3 h4⟩)
end
def gpL (ss : List Str) (π : Option Nat) : List Nat := List.range (2 ^ ss.length) ++ (match π with | none => [] | some q => [q])
section
variable {ss : List Str} {m1 m2 m3 m4 : D}
theorem gpL_len {π : Option Nat} : (gpL ss π).length = gn (2 ^ ss.length) π := by
  cases π <;> simp [gpL, gn]
theorem gpL_get {π : Option Nat} {i : Nat} (h : i < gn (2 ^ ss.length) π) : (gpL ss π)[i]? = some (gp (2 ^ ss.length) π i) := by
  unfold gpL gp
  by_cases z : i < 2 ^ ss.length
  · rw [List.getElem?_append_left (by simpa using z), if_pos z]
    simp [z]
  · rw [List.getElem?_append_right (by simp; omega), if_neg z]
    cases π with
    | none => exact absurd h z
    | some q =>
      have h' : i < 2 ^ ss.length + 1 := h
      have : i = 2 ^ ss.length := by omega
      subst this
      simp
theorem group_profiles_ok (hl : ss.length ≤ 3) {π : Option Nat} : Wo (m_group_profiles [md ss m1 m2 m3 m4, opD π]) fun r => r = tN (gpL ss π) := by
  have hp := pow_le hl
  obtain ⟨N, hN⟩ : ∃ N, N = 2 ^ ss.length := ⟨_, rfl⟩
  have hN8 : N ≤ 8 := by omega
  unfold m_group_profiles
  refine w_run0 rfl ?_
  unfold m_group_profiles_B
  refine w_seq ?_
  simp
  refine (count_ok hl).mono fun r hr => ?_
  subst hr
  rw [← hN, intD_i, Wo_some]
  refine ⟨by omega, ?_⟩
  rw [Int.toNat_natCast, rngL0]
  refine w_seq ?_
  cases π with
  | none => simp [opD, gpL, hN]
  | some q =>
    simp [opD, gpL, hN, isN]
    omega
end
theorem enum_map : ∀ (ds : List D), enumL 0 ds = (List.range ds.length).map fun i => .tup [nD i, ds.getD i .non] := fun ds => by
  apply List.ext_getElem?
  intro i
  by_cases h : i < ds.length
  · have h1 : (enumL 0 ds)[i]? = some ((enumL 0 ds)[i]'(by rw [enumL_length]; exact h)) := List.getElem?_eq_getElem _
    obtain ⟨x, h2, h3⟩ := enumL_get h1
    have h4 := (List.getElem?_eq_some_iff.mp h2).2
    rw [h1, h3]
    simp [h, h4]
  · rw [List.getElem?_eq_none (by rw [enumL_length]; omega), List.getElem?_eq_none (by simp; omega)]
theorem take_snoc {α : Type} {xs : List α} {i : Nat} {x : α} (h : xs[i]? = some x) : xs.take (i + 1) = xs.take i ++ [x] := by
  rw [List.take_add_one, h]; rfl
def fE0 : D → D
  | .tup [a, _] => a
  | _ => .non
def pEn (p : Nat → Bool) : D → Bool
  | .tup [_, .int q] => p q.toNat
  | _ => false
section
variable {ss : List Str} {m1 m2 m3 m4 : D}
theorem groups_in_ok (hl : ss.length ≤ 3) {π : Option Nat} {x : Sx} (hx : x.gd ss 40) : Wo (m_groups_in [md ss m1 m2 m3 m4, opD π, x.d]) fun r => r = .lst ((grp ss (2 ^ ss.length) π x).map nD) := by
  have hp := pow_le hl
  unfold m_groups_in
  refine w_run0 rfl ?_
  unfold m_groups_in_B
  refine w_seq ?_
  simp
  refine (group_profiles_ok hl).mono fun r hr => ?_
  subst hr
  refine wlc_filtE (pEn fun q => bl ss q x) fE0 ?_
  have hgl := gpL_len (ss := ss) (π := π)
  have hg9 : gn (2 ^ ss.length) π ≤ 9 := by cases π <;> simp [gn] <;> omega
  simp [backE]
  rw [enum_map]
  simp
  refine ⟨by omega, fun i hi => ?_, ?_⟩
  · rw [hgl] at hi
    have hgi := gpL_get hi
    simp [hgi]
    refine (belongs_ok x 40 hx.2 hx.1).mono fun r hr => ?_
    subst hr
    simp [pEn, fE0]
  · rw [List.filter_map, List.map_map]
    have e1 : (List.range (gpL ss π).length).filter ((pEn fun q => bl ss q x) ∘ fun i => D.tup [nD i, ((gpL ss π)[i]?.map nD).getD .non]) = grp ss (2 ^ ss.length) π x := by
      unfold grp
      rw [hgl]
      apply List.filter_congr
      intro i hi
      have hi' := List.mem_range.mp hi
      simp [gpL_get hi', pEn]
    try rw [e1]
    try rfl
end
theorem grp_len {N : Nat} {π : Option Nat} {x : Sx} : (grp ss N π x).length ≤ N + 1 := by
  unfold grp
  refine Nat.le_trans (List.length_filter_le ..) ?_
  rw [List.length_range]
  cases π <;> simp [gn]
end Mir
namespace Mir
open PySem L2
def rlS (r : Bool) : Str := if r then "=" else ">="
def tsD (t : Int × Str × Sx) : D := .tup [.int t.1, .str t.2.1, t.2.2.d]
def teD (t : Int × Str) : D := .tup [.int t.1, .str t.2]
def Cn.d : Cn → D
  | .sum ts r => .tup [.str "sum", .tup (ts.map tsD), .str (rlS r)]
  | .each x ts r => .tup [.str "each", x.d, .tup (ts.map teD), .str (rlS r)]
def Cn.gd (ss ac : List Str) (b : Nat) : Cn → Prop
  | .sum ts _ => (∀ t ∈ ts, t.2.1 ∈ ac ∧ t.1.natAbs < 2 ^ 20 ∧ t.2.2.gd ss b) ∧ ts.length ≤ 20
  | .each x ts _ => x.gd ss b ∧ (∀ t ∈ ts, t.2 ∈ ac ∧ t.1.natAbs < 2 ^ 20) ∧ ts.length ≤ 20
theorem rlS_eq {r : Bool} : decide (rlS r = "=") = r := by
  cases r with
  | true => rfl
  | false => rw [decide_eq_false_iff_not]; unfold rlS; rw [if_neg Bool.false_ne_true]; rw [ofString_inj]; decide
theorem terms_of_ok {c : Cn} : Wo (m_terms_of [c.d]) fun r => r = .tup (match c with | .sum ts _ => ts.map tsD | .each _ ts _ => ts.map teD) := by
  unfold m_terms_of
  refine w_run0 rfl ?_
  unfold m_terms_of_B
  refine w_seq ?_
  cases c <;> simp [Cn.d, ofString_inj]
end Mir
namespace Mir
open PySem L2
def enD (p : En) : D := .tup [.str p.1, .int p.2]
def Kin.d (k : Kin) : D := .tup [.str k.nm, k.px.d, .tup (k.giv.map enD), k.py.d, .tup (k.tak.map enD)]
structure EsOk (ac : List Str) (es : List En) : Prop where
  nd : (es.map Prod.fst).Nodup
  mem : ∀ p ∈ es, p.1 ∈ ac
  small : ∀ p ∈ es, p.2.natAbs < 2 ^ 20
  len : es.length ≤ 4
structure Kin.gd (ss ac : List Str) (b : Nat) (k : Kin) : Prop where
  px : k.px.gd ss b
  py : k.py.gd ss b
  g : EsOk ac k.giv
  t : EsOk ac k.tak
abbrev Un := Str × Nat × Nat
def unD (u : Un) : D := .tup [.str u.1, nD u.2.1, nD u.2.2]
def unR (N : Nat) (nm : Str) (i : Nat) (js : List Nat) : List Un := (js.filter fun j => decide (i < N) || decide (j < N)).map fun j => (nm, i, j)
def unK (ss : List Str) (N : Nat) (π : Option Nat) (k : Kin) : List Un := (grp ss N π k.px).flatMap fun i => unR N k.nm i (grp ss N π k.py)
def units (ss : List Str) (N : Nat) (π : Option Nat) (ks : List Kin) : List Un := ks.flatMap (unK ss N π)
theorem unR_len {N : Nat} {nm : Str} {i : Nat} {js : List Nat} : (unR N nm i js).length ≤ js.length := by
  unfold unR
  rw [List.length_map]
  exact List.length_filter_le ..
theorem unP_len {N : Nat} {nm : Str} {js : List Nat} (hj : js.length ≤ 9) : ∀ is : List Nat, (is.flatMap fun i => unR N nm i js).length ≤ is.length * 9
  | [] => by simp
  | i :: is => by
    rw [List.flatMap_cons, List.length_append, List.length_cons, Nat.succ_mul]
    have := unP_len (N := N) (nm := nm) hj is
    have := unR_len (N := N) (nm := nm) (i := i) (js := js)
    omega
theorem unK_len {ss : List Str} {N : Nat} {π : Option Nat} {k : Kin} (hN : N ≤ 8) : (unK ss N π k).length ≤ 81 := by
  have h1 := grp_len (ss := ss) (N := N) (π := π) (x := k.px)
  have h2 := grp_len (ss := ss) (N := N) (π := π) (x := k.py)
  have h3 := unP_len (N := N) (nm := k.nm) (js := grp ss N π k.py) (by omega) (grp ss N π k.px)
  have h4 : (grp ss N π k.px).length * 9 ≤ 9 * 9 := Nat.mul_le_mul_right _ (by omega)
  exact Nat.le_trans h3 h4
theorem units_len {ss : List Str} {N : Nat} {π : Option Nat} (hN : N ≤ 8) : ∀ ks : List Kin, (units ss N π ks).length ≤ ks.length * 81
  | [] => by simp [units]
  | k :: ks => by
    unfold units
    rw [List.flatMap_cons, List.length_append, List.length_cons, Nat.succ_mul]
    have := units_len (ss := ss) (π := π) hN ks
    unfold units at this
    have := unK_len (ss := ss) (π := π) (k := k) hN
    omega
section
variable {ss ac : List Str} {m1 m3 m4 : D} {ks : List Kin}
def J_u1 (v0 v1 v2 v4 v5 v6 : Sl) (acc : List Un) (N : Nat) (nm : Str) (i : Nat) (js : List Nat) (t : Nat) (e : Env) : Prop := ∃ a7, e = [v0, v1, v2, .own false (.lst ((acc ++ unR N nm i (js.take t)).map unD)), v4, v5, v6, a7] ∧ Pl a7
def J_u2 (v0 v1 v2 v4 v5 : Sl) (acc : List Un) (N : Nat) (nm : Str) (is js : List Nat) (t : Nat) (e : Env) : Prop := ∃ a6 a7, e = [v0, v1, v2, .own false (.lst ((acc ++ (is.take t).flatMap fun i => unR N nm i js).map unD)), v4, v5, a6, a7] ∧ Pl a6 ∧ Pl a7
def J_u3 (v0 v1 v2 : Sl) (ss : List Str) (N : Nat) (π : Option Nat) (ks : List Kin) (t : Nat) (e : Env) : Prop := ∃ a4 a5 a6 a7, e = [v0, v1, v2, .own false (.lst ((units ss N π (ks.take t)).map unD)), a4, a5, a6, a7] ∧ Pl a4 ∧ Pl a5 ∧ Pl a6 ∧ Pl a7
theorem unR_snoc {N : Nat} {nm : Str} {i j : Nat} {js : List Nat} : unR N nm i (js ++ [j]) = unR N nm i js ++ if i < N ∨ j < N then [(nm, i, j)] else [] := by
  unfold unR
  rw [List.filter_append, List.map_append]
  congr 1
  by_cases h1 : i < N <;> by_cases h2 : j < N <;> simp [h1, h2]
theorem units_ok {b : Nat} {π : Option Nat} (hl : ss.length ≤ 3) (hb : b ≤ 40) (hk : ks.length ≤ 6) (hg : ∀ k ∈ ks, k.gd ss ac b) : Wo (m_unit_transactions [md ss m1 (.tup (ks.map Kin.d)) m3 m4, opD π]) fun r => r = .tup ((units ss (2 ^ ss.length) π ks).map unD) := by
  have hp := pow_le hl
  obtain ⟨N, hN⟩ : ∃ N, N = 2 ^ ss.length := ⟨_, rfl⟩
  have hN8 : N ≤ 8 := by omega
  rw [← hN]
  unfold m_unit_transactions
  refine w_run0 rfl ?_
  unfold m_unit_transactions_B
  refine w_seq ?_
  simp
  refine (count_ok hl).mono fun r hr => ?_
  subst hr
  rw [← hN]
  refine w_seq ?_
  simp
  refine w_seq ?_
  refine w_for.mpr ?_
  simp
  refine wfor_inv (J_u3 (.val (md ss m1 (.tup (ks.map Kin.d)) m3 m4)) (.val (opD π)) (.val (nD N)) ss N π ks) ⟨.un, .un, .un, .un, by simp [units], by simp⟩ (fun i d e hd ⟨a4, a5, a6, a7, he, h4, h5, h6, h7⟩ => ?_) (fun e ⟨a4, a5, a6, a7, he, h4, h5, h6, h7⟩ => ?_)
  · subst he
    rw [List.getElem?_map] at hd
    obtain ⟨k, hki, rfl⟩ := Option.map_eq_some_iff.mp hd
    have hkg := hg k (List.mem_of_getElem? hki)
    have hil := (List.getElem?_eq_some_iff.mp hki).1
    have hul : (units ss N π (ks.take i)).length ≤ 6 * 81 := by
      refine Nat.le_trans (units_len hN8 _) (Nat.mul_le_mul_right _ ?_)
      rw [List.length_take]; omega
    obtain ⟨acc, hac⟩ : ∃ acc, acc = units ss N π (ks.take i) := ⟨_, rfl⟩
    rw [← hac] at hul ⊢
    rw [wo_gN]
    simp [setV_pl, h4]
    unfold m_unit_transactions_3
    refine w_seq ?_
    simp [Kin.d]
    refine (groups_in_ok hl ⟨hkg.py.1, by have := hkg.py.2; omega⟩).mono fun r hr => ?_
    subst hr
    rw [← hN]
    simp [setV_pl, h5]
    refine w_for.mpr ?_
    simp
    refine (groups_in_ok hl ⟨hkg.px.1, by have := hkg.px.2; omega⟩).mono fun r hr => ?_
    subst hr
    rw [← hN]
    simp
    have hjs := grp_len (ss := ss) (N := N) (π := π) (x := k.py)
    have his := grp_len (ss := ss) (N := N) (π := π) (x := k.px)
    obtain ⟨is, his'⟩ : ∃ is, is = grp ss N π k.px := ⟨_, rfl⟩
    obtain ⟨js, hjs'⟩ : ∃ js, js = grp ss N π k.py := ⟨_, rfl⟩
    rw [← his'] at his ⊢
    rw [← hjs'] at hjs ⊢
    refine wfor_inv (J_u2 (.val (md ss m1 (.tup (ks.map Kin.d)) m3 m4)) (.val (opD π)) (.val (nD N)) (.val (.tup [.str k.nm, k.px.d, .tup (k.giv.map enD), k.py.d, .tup (k.tak.map enD)])) (.val (.lst (js.map nD))) acc N k.nm is js) ⟨a6, a7, by simp, h6, h7⟩ (fun t d e hd ⟨b6, b7, he, k6, k7⟩ => ?_) (fun e ⟨b6, b7, he, k6, k7⟩ => ?_)
    · subst he
      rw [List.getElem?_map] at hd
      obtain ⟨q, hq, rfl⟩ := Option.map_eq_some_iff.mp hd
      have h81 := unP_len (N := N) (nm := k.nm) (js := js) (by omega) (is.take t)
      have h9 : (is.take t).length * 9 ≤ 9 * 9 := Nat.mul_le_mul_right _ (by rw [List.length_take]; omega)
      obtain ⟨acc2, hac2⟩ : ∃ x, x = acc ++ (is.take t).flatMap fun i => unR N k.nm i js := ⟨_, rfl⟩
      have hac2l : acc2.length ≤ 700 := by rw [hac2, List.length_append]; omega
      rw [← hac2]
      rw [wo_gN]
      simp [setV_pl, k6]
      unfold m_unit_transactions_2
      refine w_for.mpr ?_
      simp
      refine wfor_inv (J_u1 (.val (md ss m1 (.tup (ks.map Kin.d)) m3 m4)) (.val (opD π)) (.val (nD N)) (.val (.tup [.str k.nm, k.px.d, .tup (k.giv.map enD), k.py.d, .tup (k.tak.map enD)])) (.val (.lst (js.map nD))) (.val (nD q)) acc2 N k.nm q js) ⟨b7, by simp [unR], k7⟩ (fun u d e hd ⟨c7, he, q7⟩ => ?_) (fun e ⟨c7, he, q7⟩ => ?_)
      · subst he
        rw [List.getElem?_map] at hd
        obtain ⟨j, hj, rfl⟩ := Option.map_eq_some_iff.mp hd
        have hrl := unR_len (N := N) (nm := k.nm) (i := q) (js := js.take u)
        have hrl2 : (js.take u).length ≤ 9 := by rw [List.length_take]; omega
        have fin : J_u1 (.val (md ss m1 (.tup (ks.map Kin.d)) m3 m4)) (.val (opD π)) (.val (nD N)) (.val (.tup [.str k.nm, k.px.d, .tup (k.giv.map enD), k.py.d, .tup (k.tak.map enD)])) (.val (.lst (js.map nD))) (.val (nD q)) acc2 N k.nm q js (u + 1) [.val (md ss m1 (.tup (ks.map Kin.d)) m3 m4), .val (opD π), .val (nD N), .own false (.lst ((acc2 ++ unR N k.nm q (js.take u) ++ if q < N ∨ j < N then [(k.nm, q, j)] else []).map unD)), .val (.tup [.str k.nm, k.px.d, .tup (k.giv.map enD), k.py.d, .tup (k.tak.map enD)]), .val (.lst (js.map nD)), .val (nD q), .val (nD j)] := by
          refine ⟨.val (nD j), ?_, Pl_val⟩
          rw [take_snoc hj, unR_snoc, List.append_assoc]
        rw [wo_gN]
        simp [setV_pl, q7]
        unfold m_unit_transactions_1
        by_cases h1 : q < N
        · rw [if_pos (Or.inl h1)] at fin
          simp [h1]
          refine ⟨by omega, ?_⟩
          simpa [unD] using fin
        · by_cases h2 : j < N
          · rw [if_pos (Or.inr h2)] at fin
            simp [h1, h2]
            refine ⟨by omega, ?_⟩
            simpa [unD] using fin
          · rw [if_neg (by omega)] at fin
            simp [h1, h2]
            simpa [unD] using fin
      · subst he
        rw [List.length_map, List.take_length]
        refine ⟨.val (nD q), c7, ?_, Pl_val, q7⟩
        rw [take_snoc hq, List.flatMap_append, hac2]
        simp
    · subst he
      rw [List.length_map, List.take_length]
      refine ⟨.val (.tup [.str k.nm, k.px.d, .tup (k.giv.map enD), k.py.d, .tup (k.tak.map enD)]), .val (.lst (js.map nD)), b6, b7, ?_, Pl_val, Pl_val, k6, k7⟩
      rw [take_snoc hki, hac]
      unfold units
      rw [List.flatMap_append, his', hjs']
      simp [unK]
  · subst he
    rw [List.length_map, List.take_length]
    simp
end
end Mir
namespace Mir
open PySem L2
theorem entS_nil (s : Str) : entS [] s = 0 := rfl
theorem entS_cons (p : En) (es : List En) (s : Str) : entS (p :: es) s = (if p.1 = s then p.2 else 0) + entS es s := rfl
theorem entS_snoc (p : En) (es : List En) (s : Str) : entS (es ++ [p]) s = entS es s + if p.1 = s then p.2 else 0 := by
  unfold entS
  rw [List.map_append, List.sum_append]
  simp
theorem entS_none : ∀ {es : List En} {s : Str}, (∀ p ∈ es, p.1 ≠ s) → entS es s = 0
  | [], _, _ => rfl
  | p :: es, s, h => by
    rw [entS_cons, if_neg (h p (by simp)), entS_none fun q hq => h q (by simp [hq])]
    rfl
theorem entS_hit : ∀ {es : List En} {i : Nat} {p : En}, (es.map Prod.fst).Nodup → es[i]? = some p → entS es p.1 = p.2
  | [], i, p, _, h => by simp at h
  | q :: es, 0, p, hn, h => by
    simp at h; subst h
    rw [List.map_cons, List.nodup_cons] at hn
    rw [entS_cons, if_pos rfl, entS_none fun r hr => fun e => hn.1 (by rw [← e]; exact List.mem_map_of_mem hr)]
    omega
  | q :: es, i + 1, p, hn, h => by
    rw [List.map_cons, List.nodup_cons] at hn
    have h' : es[i]? = some p := by simpa using h
    have hne : q.1 ≠ p.1 := fun e => hn.1 (by rw [e]; exact List.mem_map_of_mem (List.mem_of_getElem? h'))
    rw [entS_cons, if_neg hne, entS_hit hn.2 h']
    omega
def J_eo (es : List En) (s : Str) (i : Nat) (e : Env) : Prop := ∃ a : Sl, e = [.val (.tup (es.map enD)), .val (.str s), a] ∧ Pl a ∧ ∀ (j : Nat) p, j < i → es[j]? = some p → p.1 ≠ s
theorem entry_of_ok {es : List En} {s : Str} (hn : (es.map Prod.fst).Nodup) : Wo (m_entry_of [.tup (es.map enD), .str s]) fun r => r = .int (entS es s) := by
  unfold m_entry_of
  refine w_run0 rfl ?_
  unfold m_entry_of_B
  refine w_seq ?_
  refine w_for.mpr ?_
  simp
  refine wfor_inv (J_eo es s) ⟨.un, rfl, Pl_un, fun j p hj => by omega⟩ (fun i d e hd ⟨a, he, ha, hj⟩ => ?_) (fun e ⟨a, he, ha, hj⟩ => ?_)
  · subst he
    rw [List.getElem?_map] at hd
    obtain ⟨p, hp, rfl⟩ := Option.map_eq_some_iff.mp hd
    rw [wo_gN]
    simp [setV_pl, ha]
    unfold m_entry_of_1
    simp [enD]
    refine ⟨fun h1 => ?_, fun h1 => ⟨_, rfl, Pl_val, fun j q hj' hq => ?_⟩⟩
    · rw [← h1, entS_hit hn hp]
    · by_cases z : j = i
      · subst z; rw [hp] at hq; cases hq; exact h1
      · exact hj j q (by omega) hq
  · subst he
    rw [List.length_map] at hj
    simp
    rw [entS_none fun p hp => by
      obtain ⟨j, hj1, rfl⟩ := List.getElem_of_mem hp
      exact hj j _ hj1 (List.getElem?_eq_getElem hj1)]
theorem lookD_cons {k0 k : Key} {ks : List Key} {v : D} {vs : List D} : lookD (k0 :: ks) (v :: vs) k = if k0 = k then some v else lookD ks vs k := by
  unfold lookD
  rw [List.zip_cons_cons, List.find?_cons]
  by_cases h : k0 = k <;> simp [h]
theorem lookD_app {k q : Key} {v : D} : ∀ {ks : List Key} {vs : List D}, ks.length = vs.length → lookD (ks ++ [k]) (vs ++ [v]) q = match lookD ks vs q with | some x => some x | none => if k = q then some v else none
  | [], [], _ => by
    rw [List.nil_append, List.nil_append, lookD_cons]
    rfl
  | k0 :: ks, v0 :: vs, h => by
    rw [List.cons_append, List.cons_append, lookD_cons, lookD_cons, lookD_app (by simpa using h)]
    by_cases h : k0 = q <;> simp [h]
  | [], _ :: _, h => by simp at h
  | _ :: _, [], h => by simp at h
theorem lookD_none {k : Key} : ∀ {ks : List Key} {vs : List D}, ks.length = vs.length → (ks.any fun x => decide (x = k)) = false → lookD ks vs k = none
  | [], [], _, _ => rfl
  | k0 :: ks, v0 :: vs, h, e => by
    rw [List.any_cons, Bool.or_eq_false_iff] at e
    have e1 : ¬ k0 = k := by simpa using e.1
    rw [lookD_cons, if_neg e1]
    exact lookD_none (by simpa using h) e.2
  | [], _ :: _, h, _ => by simp at h
  | _ :: _, [], h, _ => by simp at h
theorem lookD_zip {k q : Key} {v : D} : ∀ {ks : List Key} {vs : List D}, ks.length = vs.length → lookD ks (List.zipWith (fun x w => if x = k then v else w) ks vs) q = if q = k ∧ (ks.any fun x => decide (x = k)) = true then some v else lookD ks vs q
  | [], [], _ => by simp [lookD]
  | k0 :: ks, v0 :: vs, h => by
    rw [List.zipWith_cons_cons, lookD_cons, lookD_cons, lookD_zip (by simpa using h), List.any_cons]
    by_cases h1 : k0 = q
    · subst h1
      by_cases h2 : k0 = k <;> simp [h2]
    · by_cases h2 : q = k
      · subst h2
        rw [if_neg h1, if_neg h1, decide_eq_false h1, Bool.false_or]
      · simp [h1, h2]
  | [], _ :: _, h => by simp at h
  | _ :: _, [], h => by simp at h
theorem put_look {ks : List Key} {vs : List D} {k : Key} {v : D} (h : ks.length = vs.length) : ∃ ks' vs', putD ks vs k v = .dk ks' vs' ∧ ks'.length = vs'.length ∧ ks'.length ≤ ks.length + 1 ∧ ∀ q, lookD ks' vs' q = if q = k then some v else lookD ks vs q := by
  unfold putD
  by_cases e : (ks.any fun x => decide (x = k)) = true
  · rw [if_pos e]
    refine ⟨_, _, rfl, by simp [h], by omega, fun q => ?_⟩
    rw [lookD_zip h]
    by_cases z : q = k <;> simp [z, e]
  · rw [if_neg e]
    refine ⟨_, _, rfl, by simp [h], by simp, fun q => ?_⟩
    rw [lookD_app h]
    by_cases z : q = k
    · subst z
      rw [lookD_none h (Bool.eq_false_iff.mpr e)]
      try simp
    · rw [if_neg z]
      have z' : ¬ k = q := fun e => z e.symm
      cases lookD ks vs q <;> simp [z']
theorem wo_setFD {R : D → Prop} {ks : List Key} {vs : List D} {s : Str} {v : D} (h : ks.length < 100000) : Wo (setFD (.dk ks vs) (.str s) v) R ↔ R (putD ks vs (.inr s) v) := by
  have : setFD (.dk ks vs) (.str s) v = some (putD ks vs (.inr s) v) := by
    unfold setFD keyD
    dsimp only
    rw [if_pos h]
  rw [this, Wo_some]
theorem wo_ixDk {R : D → Prop} {ks : List Key} {vs : List D} {s : Str} {v : D} (h : lookD ks vs (.inr s) = some v) : Wo (ixDA (.dk ks vs) (.str s)) R ↔ R v := by
  have : ixDA (.dk ks vs) (.str s) = some v := by
    unfold ixDA keyD
    dsimp only
    exact h
  rw [this, Wo_some]
theorem ixt4 {R : D → Prop} {a b c d e : D} : Wo (ixD (.tup [a, b, c, d, e]) (.int 4)) R ↔ R e := wo_ixT (by decide) rfl
def rI (ac : List Str) (f : Str → Int) : List D := (ac.map f).map D.int
@[simp] theorem rI_len {ac : List Str} {f : Str → Int} : (rI ac f).length = ac.length := by simp [rI]
theorem rI_get {ac : List Str} {f : Str → Int} {j : Nat} {s : Str} (h : ac[j]? = some s) : (rI ac f)[j]? = some (.int (f s)) := by simp [rI, h]
theorem rI_congr {ac : List Str} {f g : Str → Int} (h : ∀ s ∈ ac, f s = g s) : rI ac f = rI ac g := by
  unfold rI
  rw [List.map_congr_left h]
theorem row_set {ac : List Str} (hn : ac.Nodup) {f : Str → Int} {j : Nat} {s : Str} (hj : ac[j]? = some s) (v : Int) : (rI ac f).set j (.int v) = rI ac fun t => if t = s then v else f t := by
  have hl := (List.getElem?_eq_some_iff.mp hj).1
  apply List.ext_getElem?
  intro i
  unfold rI
  by_cases e : j = i
  · subst e
    rw [List.getElem?_set_self (by simpa using hl)]
    rw [List.getElem?_map, List.getElem?_map, hj]
    simp
  · rw [List.getElem?_set_ne e, List.getElem?_map, List.getElem?_map, List.getElem?_map, List.getElem?_map]
    cases ht : ac[i]? with
    | none => rfl
    | some t =>
      have hne : t ≠ s := fun z => by
        subst z
        have i2 := (List.getElem?_eq_some_iff.mp ht).1
        exact e ((List.getElem?_inj hl hn).mp (hj.trans ht.symm))
      simp [hne]
theorem zip_rows {α : Type} {f g : α → D} : ∀ xs : List α, zipL (xs.map f) (xs.map g) = xs.map fun x => .tup [f x, g x]
  | [] => rfl
  | x :: xs => by
    rw [List.map_cons, List.map_cons, List.map_cons, zipL, zip_rows xs]
theorem wo_eqIN {R : D → Prop} {i : Int} : Wo (eqD (.int i) .non) R ↔ R (.bl false) := by with_unfolding_all exact Iff.rfl
theorem tms_snoc (ts : List (Int × Str)) (t : Int × Str) (s : Str) : tms (ts ++ [t]) s = tms ts s + if t.2 = s then t.1 else 0 := by
  unfold tms
  rw [List.map_append, List.sum_append]
  simp
theorem abs_sum {xs : List Int} {B : Nat} (h : ∀ x ∈ xs, x.natAbs ≤ B) : xs.sum.natAbs ≤ xs.length * B := sum_abs h
theorem tms_small {ts : List (Int × Str)} {B : Nat} (h : ∀ t ∈ ts, t.1.natAbs ≤ B) (s : Str) : (tms ts s).natAbs ≤ ts.length * B := by
  unfold tms
  have := sum_abs (xs := ts.map fun t => if t.2 = s then t.1 else 0) (B := B) fun x hx => by
    obtain ⟨t, ht, rfl⟩ := List.mem_map.mp hx
    have := h t ht
    split
    · exact this
    · simp
  rwa [List.length_map] at this
theorem EsOk.ent {ac : List Str} {es : List En} (h : EsOk ac es) (s : Str) : (entS es s).natAbs ≤ 2 ^ 22 := by
  unfold entS
  have h1 := sum_abs (xs := es.map fun p => if p.1 = s then p.2 else 0) (B := 2 ^ 20) fun x hx => by
    obtain ⟨t, ht, rfl⟩ := List.mem_map.mp hx
    have := h.small t ht
    split
    · omega
    · simp
  rw [List.length_map] at h1
  have h2 := h.len
  have h3 : es.length * 2 ^ 20 ≤ 4 * 2 ^ 20 := Nat.mul_le_mul_right _ h2
  omega
def kof (ks : List Kin) (nm : Str) : Option Kin := ks.reverse.find? fun k => decide (k.nm = nm)
def kz (ks : List Kin) (nm : Str) : Kin := (kof ks nm).getD ⟨"", .all, [], .all, []⟩
theorem kof_snoc (ks : List Kin) (k : Kin) (nm : Str) : kof (ks ++ [k]) nm = if k.nm = nm then some k else kof ks nm := by
  unfold kof
  rw [List.reverse_append, List.reverse_singleton, List.singleton_append, List.find?_cons]
  by_cases h : k.nm = nm <;> simp [h]
theorem kof_some {ks : List Kin} {nm : Str} (h : ∃ k ∈ ks, k.nm = nm) : ∃ k ∈ ks, kof ks nm = some k ∧ k.nm = nm := by
  unfold kof
  cases e : ks.reverse.find? fun k => decide (k.nm = nm) with
  | none =>
    obtain ⟨k, hk, hn⟩ := h
    have := List.find?_eq_none.mp e k (List.mem_reverse.mpr hk)
    simp [hn] at this
  | some k =>
    have h1 := List.mem_of_find?_eq_some e
    have h2 := List.find?_some e
    exact ⟨k, List.mem_reverse.mp h1, rfl, by simpa using h2⟩
end Mir
namespace Mir
open PySem L2
def Cn.cut (n : Nat) : Cn → Cn
  | .sum ts r => .sum (ts.take n) r
  | .each x ts r => .each x (ts.take n) r
section
variable {ss ac : List Str} {m2 m3 m4 : D}
def J_w1 (v0 v1 v2 v3 v4 v5 v6 : Sl) (ss ac : List Str) (N : Nat) (π : Option Nat) (c : Cn) (g : Option Nat) (i : Nat) (t : Nat) (e : Env) : Prop := ∃ a8 a9 a10, e = [v0, v1, v2, v3, v4, v5, v6, .own false (.lst (rI ac (wt ss N π (c.cut t) g i))), a8, a9, a10] ∧ Pl a8 ∧ Pl a9 ∧ Pl a10
theorem wt_step_s {N : Nat} {π : Option Nat} {ts : List (Int × Str × Sx)} {r : Bool} {g : Option Nat} {i t : Nat} {u : Int × Str × Sx} (h : ts[t]? = some u) (s : Str) : wt ss N π ((Cn.sum ts r).cut (t + 1)) g i s = wt ss N π ((Cn.sum ts r).cut t) g i s + if bl ss (gp N π i) u.2.2 = true then (if u.2.1 = s then u.1 else 0) else 0 := by
  unfold wt tmc Cn.cut
  dsimp only
  rw [take_snoc h, List.filter_append, List.map_append]
  by_cases z : bl ss (gp N π i) u.2.2 = true
  · rw [if_pos z]
    have : [u].filter (fun t => bl ss (gp N π i) t.2.2) = [u] := by simp [z]
    rw [this]
    exact tms_snoc _ _ _
  · rw [if_neg z]
    have : [u].filter (fun t => bl ss (gp N π i) t.2.2) = [] := by simp [z]
    rw [this]
    simp
theorem wt_step_e {N : Nat} {π : Option Nat} {x : Sx} {ts : List (Int × Str)} {r : Bool} {g : Option Nat} {i t : Nat} {u : Int × Str} (h : ts[t]? = some u) (s : Str) : wt ss N π ((Cn.each x ts r).cut (t + 1)) g i s = wt ss N π ((Cn.each x ts r).cut t) g i s + if some i = g then (if u.2 = s then u.1 else 0) else 0 := by
  unfold wt tmc Cn.cut
  dsimp only
  by_cases z : some i = g
  · rw [if_pos z, if_pos z, if_pos z, take_snoc h]
    exact tms_snoc _ _ _
  · rw [if_neg z, if_neg z, if_neg z]
    simp
def J_w2 (v0 v1 v2 v3 : Sl) (ss ac : List Str) (N : Nat) (π : Option Nat) (c : Cn) (g : Option Nat) (t : Nat) (e : Env) : Prop := ∃ a5 a6 a7 a8 a9 a10, e = [v0, v1, v2, v3, .own false (.lst ((List.range t).map fun i => .lst (rI ac (wt ss N π c g i)))), a5, a6, a7, a8, a9, a10] ∧ Pl a5 ∧ Pl a6 ∧ Pl a7 ∧ Pl a8 ∧ Pl a9 ∧ Pl a10
theorem cut_s {ts : List (Int × Str × Sx)} {r : Bool} : (Cn.sum ts r).cut ts.length = .sum ts r := by simp [Cn.cut]
theorem cut_e {x : Sx} {ts : List (Int × Str)} {r : Bool} : (Cn.each x ts r).cut ts.length = .each x ts r := by simp [Cn.cut]
theorem weights_ok {b : Nat} {π : Option Nat} {c : Cn} {g : Option Nat} (hl : ss.length ≤ 3) (hb : b ≤ 40) (hac : ac.length ≤ 4) (hn : ac.Nodup) (hc : c.gd ss ac b) : Wo (m_weights_of [md ss (tS ac) m2 m3 m4, opD π, c.d, opD g]) fun r => r = .lst ((List.range (gn (2 ^ ss.length) π)).map fun i => .lst (rI ac (wt ss (2 ^ ss.length) π c g i))) := by
  have hp := pow_le hl
  obtain ⟨N, hN⟩ : ∃ N, N = 2 ^ ss.length := ⟨_, rfl⟩
  have hN8 : N ≤ 8 := by omega
  have hg9 : gn N π ≤ 9 := by cases π <;> simp [gn] <;> omega
  have hgl := gpL_len (ss := ss) (π := π)
  rw [← hN] at hgl ⊢
  unfold m_weights_of
  refine w_run0 rfl ?_
  unfold m_weights_of_B
  refine w_seq ?_
  simp
  refine w_seq ?_
  refine w_for.mpr ?_
  simp
  refine (group_profiles_ok hl).mono fun r hr => ?_
  subst hr
  rw [itemsOf_t, Wo_some, enum_map]
  refine wfor_inv (J_w2 (.val (md ss (tS ac) m2 m3 m4)) (.val (opD π)) (.val c.d) (.val (opD g)) ss ac N π c g) ⟨.un, .un, .un, .un, .un, .un, rfl, by simp⟩ (fun i d e hd ⟨a5, a6, a7, a8, a9, a10, he, h5, h6, h7, h8, h9, h10⟩ => ?_) (fun e ⟨a5, a6, a7, a8, a9, a10, he, h5, h6, h7, h8, h9, h10⟩ => ?_)
  · subst he
    have hi := (List.getElem?_eq_some_iff.mp hd).1
    rw [List.length_map, List.length_range, List.length_map, hgl] at hi
    have hgi := gpL_get (ss := ss) (π := π) (i := i) (by rw [← hN]; exact hi)
    rw [← hN] at hgi
    have hdi : d = .tup [nD i, nD (gp N π i)] := by
      rw [List.getElem?_map] at hd
      have hgi2 := (List.getElem?_eq_some_iff.mp hgi).2
      simp [hgl, hi] at hd
      rw [← hgi2]
      exact hd.symm
    subst hdi
    simp [setV_pl, h5, h6]
    unfold m_weights_of_2
    refine w_seq ?_
    simp [setO_pl, h7]
    refine ⟨by omega, ?_⟩
    have e0 : List.replicate ac.length (D.int 0) = rI ac (wt ss N π (c.cut 0) g i) := by
      unfold rI
      have : ac.map (wt ss N π (c.cut 0) g i) = ac.map fun _ => 0 := List.map_congr_left fun s _ => by
        cases c <;> simp [Cn.cut, wt, tmc, tms]
      rw [this, List.map_const', List.map_replicate]
    rw [e0]
    refine w_seq ?_
    refine w_for.mpr ?_
    simp
    refine terms_of_ok.mono fun r hr => ?_
    subst hr
    rw [seqOf_t, Wo_some]
    have J0 : J_w1 (.val (md ss (tS ac) m2 m3 m4)) (.val (opD π)) (.val c.d) (.val (opD g)) (.own false (.lst ((List.range i).map fun i => .lst (rI ac (wt ss N π c g i))))) (.val (nD i)) (.val (nD (gp N π i))) ss ac N π c g i 0 [.val (md ss (tS ac) m2 m3 m4), .val (opD π), .val c.d, .val (opD g), .own false (.lst ((List.range i).map fun i => .lst (rI ac (wt ss N π c g i)))), .val (nD i), .val (nD (gp N π i)), .own false (.lst (rI ac (wt ss N π (c.cut 0) g i))), a8, a9, a10] := ⟨a8, a9, a10, rfl, h8, h9, h10⟩
    cases c with
    | sum ts r =>
      refine wfor_inv (J_w1 (.val (md ss (tS ac) m2 m3 m4)) (.val (opD π)) (.val ((Cn.sum ts r)).d) (.val (opD g)) (.own false (.lst ((List.range i).map fun i => .lst (rI ac (wt ss N π (Cn.sum ts r) g i))))) (.val (nD i)) (.val (nD (gp N π i))) ss ac N π (Cn.sum ts r) g i) J0 (fun t d e hd ⟨b8, b9, b10, he, k8, k9, k10⟩ => ?_) (fun e ⟨b8, b9, b10, he, k8, k9, k10⟩ => ?_)
      · subst he
        rw [List.getElem?_map] at hd
        obtain ⟨u, hu, rfl⟩ := Option.map_eq_some_iff.mp hd
        obtain ⟨hu1, hu2, hu3⟩ := hc.1 u (List.mem_of_getElem? hu)
        obtain ⟨hj1, hj2⟩ := ix_facts hu1
        have hjl := (List.getElem?_eq_some_iff.mp hj2).1
        rw [wo_gN]
        simp [setV_pl, k8]
        unfold m_weights_of_1
        refine w_seq ?_
        simp [setV_pl, k9]
        have eqb : ∀ {R : D → Prop}, (∀ b : Bool, R (.bl b)) → Wo (eqD (nD i) (opD g)) R := fun {R} h => by
          cases g with
          | none => exact wo_eqIN.mpr (h _)
          | some g => exact wo_eqI.mpr (h _)
        refine eqb fun b0 => ?_
        simp [Cn.d]
        refine w_seq ?_
        simp [tsD]
        refine (belongs_ok u.2.2 40 (by have := hu3.2; omega) hu3.1).mono fun r' hr' => ?_
        subst hr'
        simp
        refine ⟨fun hbt => ?_, fun hbf => ?_⟩
        · refine w_seq ?_
          simp [setV_pl, k10]
          rw [show tupD (tS ac) = some (ac.map D.str) from rfl, Wo_some, wo_idxS hu1]
          rw [wo_ixL (d := .int (wt ss N π ((Cn.sum ts r).cut t) g i u.2.1)) (by omega) (by rw [Int.toNat_natCast]; exact rI_get hj2)]
          rw [wo_add, wo_set (j := ix ac u.2.1) (by rw [ixN_pos (by omega) (by simp; omega)]; simp), row_set hn hj2]
          refine ⟨.val (tsD u), .val (.bl true), .val (nD (ix ac u.2.1)), ?_, Pl_val, Pl_val, Pl_val⟩
          rw [rI_congr (g := wt ss N π ((Cn.sum ts r).cut (t + 1)) g i) fun s _ => ?_]
          · simp [Cn.d, tsD, hbt]
          rw [wt_step_s hu, if_pos hbt]
          by_cases z : s = u.2.1
          · subst z; simp
          · have z' : ¬ u.2.1 = s := fun w => z w.symm
            simp [z, z']
        · refine ⟨.val (tsD u), .val (.bl false), b10, ?_, Pl_val, Pl_val, k10⟩
          rw [rI_congr (g := wt ss N π ((Cn.sum ts r).cut (t + 1)) g i) fun s _ => ?_]
          · simp [Cn.d, tsD, hbf]
          rw [wt_step_s hu, if_neg (by rw [hbf]; exact Bool.false_ne_true)]
          omega
      · subst he
        rw [List.length_map, cut_s]
        simp
        refine ⟨by omega, .val (nD i), .val (nD (gp N π i)), .val (.lst (rI ac (wt ss N π (Cn.sum ts r) g i))), b8, b9, b10, ?_, Pl_val, Pl_val, Pl_val, k8, k9, k10⟩
        simp [List.range_succ]
    | each x ts r =>
      refine wfor_inv (J_w1 (.val (md ss (tS ac) m2 m3 m4)) (.val (opD π)) (.val ((Cn.each x ts r)).d) (.val (opD g)) (.own false (.lst ((List.range i).map fun i => .lst (rI ac (wt ss N π (Cn.each x ts r) g i))))) (.val (nD i)) (.val (nD (gp N π i))) ss ac N π (Cn.each x ts r) g i) J0 (fun t d e hd ⟨b8, b9, b10, he, k8, k9, k10⟩ => ?_) (fun e ⟨b8, b9, b10, he, k8, k9, k10⟩ => ?_)
      · subst he
        rw [List.getElem?_map] at hd
        obtain ⟨u, hu, rfl⟩ := Option.map_eq_some_iff.mp hd
        obtain ⟨hu1, hu2⟩ := hc.2.1 u (List.mem_of_getElem? hu)
        obtain ⟨hj1, hj2⟩ := ix_facts hu1
        have hjl := (List.getElem?_eq_some_iff.mp hj2).1
        rw [wo_gN]
        simp [setV_pl, k8]
        unfold m_weights_of_1
        refine w_seq ?_
        simp [setV_pl, k9]
        have eqb : ∀ {R : D → Prop}, R (.bl (decide (some i = g))) → Wo (eqD (nD i) (opD g)) R := fun {R} h => by
          cases g with
          | none => exact wo_eqIN.mpr (by simpa using h)
          | some g =>
            refine wo_eqI.mpr ?_
            have : decide ((i : Int) = (g : Int)) = decide (some i = some g) := by
              rw [decide_eq_decide]; simp; omega
            rw [this]; exact h
        refine eqb ?_
        simp [Cn.d]
        refine w_seq ?_
        simp [ofString_inj]
        refine ⟨fun hbt => ?_, fun hbf => ?_⟩
        · refine w_seq ?_
          simp [setV_pl, k10, teD]
          rw [show tupD (tS ac) = some (ac.map D.str) from rfl, Wo_some, wo_idxS hu1]
          rw [wo_ixL (d := .int (wt ss N π ((Cn.each x ts r).cut t) g i u.2)) (by omega) (by rw [Int.toNat_natCast]; exact rI_get hj2)]
          rw [wo_add, wo_set (j := ix ac u.2) (by rw [ixN_pos (by omega) (by simp; omega)]; simp), row_set hn hj2]
          refine ⟨.val (teD u), .val (.bl (decide (some i = g))), .val (nD (ix ac u.2)), ?_, Pl_val, Pl_val, Pl_val⟩
          rw [rI_congr (g := wt ss N π ((Cn.each x ts r).cut (t + 1)) g i) fun s _ => ?_]
          · simp [Cn.d, teD]
          rw [wt_step_e hu, if_pos hbt]
          by_cases z : s = u.2
          · subst z; simp
          · have z' : ¬ u.2 = s := fun w => z w.symm
            simp [z, z']
        · refine ⟨.val (teD u), .val (.bl (decide (some i = g))), b10, ?_, Pl_val, Pl_val, k10⟩
          rw [rI_congr (g := wt ss N π ((Cn.each x ts r).cut (t + 1)) g i) fun s _ => ?_]
          rw [wt_step_e hu, if_neg hbf]
          omega
      · subst he
        rw [List.length_map, cut_e]
        simp
        refine ⟨by omega, .val (nD i), .val (nD (gp N π i)), .val (.lst (rI ac (wt ss N π (Cn.each x ts r) g i))), b8, b9, b10, ?_, Pl_val, Pl_val, Pl_val, k8, k9, k10⟩
        simp [List.range_succ]
  · subst he
    rw [List.length_map, List.length_range, List.length_map, hgl]
    simp
end
theorem wt_small {ss ac : List Str} {N : Nat} {π : Option Nat} {c : Cn} {g : Option Nat} {b i : Nat} (hc : c.gd ss ac b) (s : Str) : (wt ss N π c g i s).natAbs ≤ 20 * 2 ^ 20 := by
  unfold wt
  have h1 : ∀ t ∈ tmc ss N π c g i, t.1.natAbs ≤ 2 ^ 20 := fun t ht => by
    cases c with
    | sum ts r =>
      obtain ⟨u, hu, rfl⟩ := List.mem_map.mp ht
      exact Nat.le_of_lt (hc.1 u (List.mem_filter.mp hu).1).2.1
    | each x ts r =>
      unfold tmc at ht
      dsimp only at ht
      split at ht
      · exact Nat.le_of_lt (hc.2.1 t ht).2
      · cases ht
  have h2 : (tmc ss N π c g i).length ≤ 20 := by
    cases c with
    | sum ts r =>
      simp only [tmc, List.length_map]
      exact Nat.le_trans (List.length_filter_le ..) hc.2
    | each x ts r =>
      simp only [tmc]
      split
      · exact hc.2.2
      · simp
  exact Nat.le_trans (tms_small h1 s) (Nat.mul_le_mul_right _ h2)
theorem mul_abs {x y : Int} {a b : Nat} (hx : x.natAbs ≤ a) (hy : y.natAbs ≤ b) : (x * y).natAbs ≤ a * b := by
  rw [Int.natAbs_mul]
  exact Nat.mul_le_mul hx hy
theorem wth_small {ac : List Str} {f : Str → Int} {es : List En} (hac : ac.length ≤ 4) (hf : ∀ s ∈ ac, (f s).natAbs ≤ 20 * 2 ^ 20) (he : EsOk ac es) : (wth ac f es).natAbs ≤ 4 * (20 * 2 ^ 20 * 2 ^ 22) := by
  unfold wth
  have h1 := sum_abs (xs := ac.map fun s => f s * entS es s) (B := 20 * 2 ^ 20 * 2 ^ 22) fun x hx => by
    obtain ⟨s, hs, rfl⟩ := List.mem_map.mp hx
    exact mul_abs (hf s hs) (he.ent s)
  rw [List.length_map] at h1
  exact Nat.le_trans h1 (Nat.mul_le_mul_right _ hac)
def fWo (es : List En) : D → D
  | .tup [.int a, .str s] => .int (a * entS es s)
  | _ => .non
section
variable {ss ac : List Str} {m0 m2 m3 m4 : D} {ks : List Kin}
theorem worth_ok {f : Str → Int} {es : List En} (hac : ac.length ≤ 4) (hf : ∀ s ∈ ac, (f s).natAbs ≤ 20 * 2 ^ 20) (he : EsOk ac es) : Wo (m_worth [.tup [m0, tS ac, m2, m3, m4], .lst (rI ac f), .tup (es.map enD)]) fun r => r = .int (wth ac f es) := by
  unfold m_worth
  refine w_run0 rfl ?_
  unfold m_worth_B
  simp
  refine wlc_pureE (fWo es) ?_
  have hz : zipL (rI ac f) (ac.map D.str) = ac.map fun s => .tup [.int (f s), .str s] := by
    unfold rI
    rw [List.map_map]
    exact zip_rows ac
  simp [backE, tS]
  rw [hz]
  refine ⟨by rw [List.length_map]; omega, fun d hd => ?_, ?_⟩
  · obtain ⟨s, hs, rfl⟩ := List.mem_map.mp hd
    simp
    refine (entry_of_ok he.nd).mono fun r hr => ?_
    subst hr
    have h1 := natlog (Nat.lt_of_le_of_lt (hf s hs) (show 20 * 2 ^ 20 < 2 ^ 60 by decide))
    have h2 := natlog (Nat.lt_of_le_of_lt (he.ent s) (show 2 ^ 22 < 2 ^ 60 by decide))
    simp [fWo]
    omega
  · have e1 : (ac.map fun s => D.tup [.int (f s), .str s]).map (fWo es) = (ac.map fun s => f s * entS es s).map D.int := by simp [fWo, Function.comp_def]
    rw [e1, wo_sum]
    rfl
def fWl (ac : List Str) (es : List En) : D → D
  | .lst l => match intsOf l with
    | some ns => .int (List.zipWith (fun a s => a * entS es s) ns ac).sum
    | none => .non
  | _ => .non
theorem fWl_row {f : Str → Int} {es : List En} : fWl ac es (.lst (rI ac f)) = .int (wth ac f es) := by
  unfold fWl rI
  dsimp only
  rw [intsOf_map]
  dsimp only
  congr 1
  unfold wth
  congr 1
  induction ac with
  | nil => rfl
  | cons a ac ih => simp only [List.map_cons, List.zipWith_cons_cons, ih]
abbrev tabW (ac : List Str) (G : Nat) (w : Nat → Str → Int) : D := .lst ((List.range G).map fun i => .lst (rI ac (w i)))
def colD (ac : List Str) (G : Nat) (w : Nat → Str → Int) (es : List En) : D := .lst ((List.range G).map fun i => .int (wth ac (w i) es))
def fU (ac : List Str) (w : Nat → Str → Int) (ks : List Kin) (sign : Int) : D → D
  | .tup [.str nm, .int i, .int j] => .int (sign * con ac w (kz ks nm) i.toNat j.toNat)
  | _ => .non
def J_cr (v0 v1 v2 v3 : Sl) (ac : List Str) (G : Nat) (w : Nat → Str → Int) (ks : List Kin) (t : Nat) (e : Env) : Prop := ∃ (a6 a7 a8 a9 a10 : Sl) (kk : List Key) (vv : List D) (kk2 : List Key) (vv2 : List D), e = [v0, v1, v2, v3, .own false (.dk kk vv), .own false (.dk kk2 vv2), a6, a7, a8, a9, a10] ∧ kk.length = vv.length ∧ kk.length ≤ t ∧ (∀ nm, lookD kk vv (.inr nm) = (kof (ks.take t) nm).map fun k => colD ac G w k.giv) ∧
  kk2.length = vv2.length ∧ kk2.length ≤ t ∧ (∀ nm, lookD kk2 vv2 (.inr nm) = (kof (ks.take t) nm).map fun k => colD ac G w k.tak) ∧ Pl a6 ∧ Pl a7 ∧ Pl a8 ∧ Pl a9 ∧ Pl a10
theorem crow_ok {us : List Un} {G b : Nat} {w : Nat → Str → Int} {sign : Int} (hac : ac.length ≤ 4) (hkl : ks.length ≤ 20) (hk : ∀ k ∈ ks, k.gd ss ac b) (hG : G ≤ 9) (hw : ∀ i, i < G → ∀ s ∈ ac, (w i s).natAbs ≤ 20 * 2 ^ 20) (hs : sign.natAbs ≤ 1) (hul : us.length ≤ 1000) (hu : ∀ u ∈ us, (∃ k ∈ ks, k.nm = u.1) ∧ u.2.1 < G ∧ u.2.2 < G) :
    Wo (m_contribution_row [.tup [m0, tS ac, .tup (ks.map Kin.d), m3, m4], .tup (us.map unD), tabW ac G w, .int sign]) fun r => r = tI (us.map fun u => sign * con ac w (kz ks u.1) u.2.1 u.2.2) := by
  unfold m_contribution_row
  refine w_run0 rfl ?_
  unfold m_contribution_row_B
  refine w_seq ?_
  simp
  refine w_seq ?_
  simp
  refine w_seq ?_
  refine w_for.mpr ?_
  simp
  refine wfor_inv (J_cr (.val (.tup [m0, tS ac, .tup (ks.map Kin.d), m3, m4])) (.val (.tup (us.map unD))) (.val (tabW ac G w)) (.val (.int sign)) ac G w ks) ⟨.un, .un, .un, .un, .un, [], [], [], [], rfl, rfl, by simp, fun nm => rfl, rfl, by simp, fun nm => rfl, by simp⟩ (fun t d e hd ⟨a6, a7, a8, a9, a10, kk, vv, kk2, vv2, he, hl, ht, hlk, hl2, ht2, hlk2, h6, h7, h8, h9, h10⟩ => ?_) (fun e ⟨a6, a7, a8, a9, a10, kk, vv, kk2, vv2, he, hl, ht, hlk, hl2, ht2, hlk2, h6, h7, h8, h9, h10⟩ => ?_)
  · subst he
    have hi := (List.getElem?_eq_some_iff.mp hd).1
    rw [List.length_map] at hi
    rw [List.getElem?_map] at hd
    obtain ⟨k, hki, rfl⟩ := Option.map_eq_some_iff.mp hd
    have hkk := hk k (List.mem_of_getElem? hki)
    rw [wo_gN]
    simp [setV_pl, h6]
    unfold m_contribution_row_1
    refine w_seq ?_
    simp
    refine wlc_pureE (fWl ac k.giv) ?_
    simp [backE, ownAt_pl, h7, Kin.d]
    refine ⟨by omega, fun i hiG => ?_, ?_⟩
    · try simp [setV_pl, h7]
      refine (worth_ok hac (hw i hiG) hkk.g).mono fun r hr => ?_
      subst hr
      rw [fWl_row]
    · have ec : D.lst (List.map (fWl ac k.giv ∘ fun i => D.lst (rI ac (w i))) (List.range G)) = colD ac G w k.giv := by
        unfold colD
        congr 1
        apply List.map_congr_left
        intro i _
        exact fWl_row
      rw [ec]
      rw [wo_setFD (by omega)]
      obtain ⟨kk', vv', e1, e2, e3, e4⟩ := put_look (k := .inr k.nm) (v := colD ac G w k.giv) hl
      rw [e1]
      try simp
      refine wlc_pureE (fWl ac k.tak) ?_
      simp [backE, ownAt_pl, h7]
      refine ⟨by omega, fun i hiG => ?_, ?_⟩
      · try simp [setV_pl, h7]
        rw [ixt4]
        refine (worth_ok hac (hw i hiG) hkk.t).mono fun r hr => ?_
        subst hr
        rw [fWl_row]
      · have ec2 : D.lst (List.map (fWl ac k.tak ∘ fun i => D.lst (rI ac (w i))) (List.range G)) = colD ac G w k.tak := by
          unfold colD
          congr 1
          apply List.map_congr_left
          intro i _
          exact fWl_row
        rw [ec2]
        rw [wo_setFD (by omega)]
        obtain ⟨kk2', vv2', f1, f2, f3, f4⟩ := put_look (k := .inr k.nm) (v := colD ac G w k.tak) hl2
        rw [f1]
        try simp
        refine ⟨.val k.d, a7, a8, a9, a10, kk', vv', kk2', vv2', by simp [Kin.d], e2, by omega, fun nm => ?_, f2, by omega, fun nm => ?_, Pl_val, h7, h8, h9, h10⟩
        · rw [e4, hlk, take_snoc hki, kof_snoc]
          by_cases z : k.nm = nm
          · subst z; simp
          · have z' : ¬ (Sum.inr nm : Key) = .inr k.nm := fun e => z (by injection e with e; exact e.symm)
            rw [if_neg z', if_neg z]
        · rw [f4, hlk2, take_snoc hki, kof_snoc]
          by_cases z : k.nm = nm
          · subst z; simp
          · have z' : ¬ (Sum.inr nm : Key) = .inr k.nm := fun e => z (by injection e with e; exact e.symm)
            rw [if_neg z', if_neg z]
  · subst he
    rw [List.length_map, List.take_length] at hlk hlk2
    simp
    refine wlc_pureE (fU ac w ks sign) ?_
    simp [backE, ownAt_pl, setV_pl, h8, h9, h10]
    refine ⟨by omega, fun d nm i j hm he => ?_, ?_⟩
    · subst he
      obtain ⟨hex, hiG, hjG⟩ := hu _ hm
      obtain ⟨k, hk1, hk2, hk3⟩ := kof_some hex
      have hkk := hk k hk1
      have hkz : kz ks nm = k := by
        unfold kz
        have : kof ks nm = some k := hk2
        rw [this]; rfl
      have l1 : lookD kk vv (.inr nm) = some (colD ac G w k.giv) := by rw [hlk, show kof ks nm = some k from hk2]; rfl
      have l2 : lookD kk2 vv2 (.inr nm) = some (colD ac G w k.tak) := by rw [hlk2, show kof ks nm = some k from hk2]; rfl
      simp [unD, setV_pl, h8, h9, h10]
      rw [wo_ixDk l1]
      unfold colD
      have hiG' : i < G := hiG
      have hjG' : j < G := hjG
      rw [wo_ixL (d := .int (wth ac (w i) k.giv)) (by omega) (by rw [Int.toNat_natCast]; simp [hiG'])]
      rw [wo_ixDk l2]
      unfold colD
      rw [wo_ixL (d := .int (wth ac (w j) k.tak)) (by omega) (by rw [Int.toNat_natCast]; simp [hjG'])]
      rw [wo_add, wo_mul]
      have b1 := wth_small hac (hw i hiG') hkk.g
      have b2 := wth_small hac (hw j hjG') hkk.t
      refine ⟨natlog_mul (a := 60) (b := 60) (by omega) (by omega) (by decide), ?_⟩
      simp [fU, hkz, con]
    · intro nm i j hm
      simp [unD, fU]
end
end Mir
namespace Mir
open PySem L2
/-! ### sector expressions -/
theorem leaf_ok {n : Nat} {tp : D} {ss : List Str} (hss : ss.length ≤ 30) (hn : n < 2 ^ 50) (h : Tape n tp) : W (m__law_leaf [tp, .tup (ss.map D.str)]) fun r tp' => Tape (n + 1) tp' ∧ ∃ x : Sx, r = x.d ∧ x.ok ss ∧ x.dep ≤ 1 := by
  unfold m__law_leaf
  refine w_run1 rfl ?_
  unfold m__law_leaf_B
  refine w_seq ?_
  simp
  have l2 : Nat.log2 2 < 64 := by decide
  have ll : (ss.length : Int).natAbs.log2 ≤ 64 := log64 (by omega)
  refine ⟨by simp at ll; omega, ?_⟩
  refine (draw_ok (by omega) h (by omega)).mono fun r tp1 ⟨ht1, k, hk, hk0, hk1⟩ => ?_
  subst hk
  refine w_seq ?_
  simp
  refine ⟨fun hlt => ?_, fun hge => ?_⟩
  · refine wo_ixAny hk0 (by simp; omega) fun d hd => ?_
    simp at hd
    rcases hd with rfl | rfl
    · exact ⟨ht1, .all, rfl, trivial, Nat.le_refl _⟩
    · exact ⟨ht1, .none, rfl, trivial, Nat.le_refl _⟩
  · refine ⟨by omega, ?_⟩
    refine wo_ixET (enc := D.str) (by omega) (by omega) fun s hs => ?_
    exact ⟨ht1, .sec s, rfl, List.mem_of_getElem? hs, Nat.le_refl _⟩
theorem idx_or {R : D → Prop} : Wo (idxS (.lst [.str "or", .str "and", .str "not"]) (.str "or")) R ↔ R (.int 0) := by
  simp [idxS, strsOf, List.findIdx?_cons]
theorem idx_and {R : D → Prop} : Wo (idxS (.lst [.str "or", .str "and", .str "not"]) (.str "and")) R ↔ R (.int 1) := by
  simp [idxS, strsOf, List.findIdx?_cons, ofString_inj]
theorem idx_not {R : D → Prop} : Wo (idxS (.lst [.str "or", .str "and", .str "not"]) (.str "not")) R ↔ R (.int 2) := by
  simp [idxS, strsOf, List.findIdx?_cons, ofString_inj]
theorem sector_ok {ss : List Str} (hss : ss.length ≤ 30) : ∀ (g fuel n : Nat) (tp : D) (size depth level : Int), g < fuel → 1 ≤ size → size ≤ 1000 → 0 ≤ depth → 0 ≤ level → 2 * (size + depth) + (if level < 3 then 1 else 0) ≤ g → n + 4 ^ (g + 1) < 2 ^ 50 → Tape n tp →
    W (m__law_sector fuel [tp, .tup (ss.map D.str), .int size, .int depth, .int level]) fun r tp' => Tape (n + 4 ^ (g + 1)) tp' ∧ ∃ x : Sx, r = x.d ∧ x.ok ss ∧ x.dep ≤ g + 1 := by
  intro g
  induction g with
  | zero => intro fuel n tp size depth level hf h1 hsz h2 h3 h4; exfalso; split at h4 <;> omega
  | succ g ih =>
    intro fuel n tp size depth level hf h1 hsz h2 h3 h4 hn h
    obtain ⟨P, hP⟩ : ∃ P, P = 4 ^ (g + 1) := ⟨_, rfl⟩
    have hP2 : 4 ^ (g + 1 + 1) = 4 * P := by rw [hP, Nat.pow_succ 4 (g + 1)]; omega
    have hP1 : 4 ≤ P := by rw [hP, Nat.pow_succ]; have := Nat.one_le_two_pow (n := g); have : 1 ≤ 4 ^ g := Nat.one_le_pow _ _ (by decide); omega
    rw [hP2] at hn ⊢
    rw [← hP] at ih
    cases fuel with
    | zero => omega
    | succ fuel =>
      have leaf : ∀ (m : Nat) (tp : D), m ≤ n + 3 → Tape m tp → W (m__law_leaf [tp, .tup (ss.map D.str)]) fun r tp' => Tape (n + 4 * P) tp' ∧ ∃ x : Sx, r = x.d ∧ x.ok ss ∧ x.dep ≤ g + 1 + 1 := fun m tp hm ht =>
        (leaf_ok hss (by omega) ht).mono fun r tp' ⟨ht', x, hx, hok, hd⟩ => ⟨ht'.mono (by omega), x, hx, hok, by omega⟩
      unfold m__law_sector
      refine w_run1 rfl ?_
      unfold m__law_sector_B
      refine w_seq ?_
      simp
      refine (draw_ok (by omega) h (by decide)).mono fun r tp1 ⟨ht1, k, hk, hk0, hk1⟩ => ?_
      subst hk
      refine wo_ixAny hk0 (by simp; omega) fun kd hkd => ?_
      have hkd' : kd = .str "or" ∨ kd = .str "and" ∨ kd = .str "not" ∨ kd = .str "leaf" := by
        simp at hkd
        rcases hkd with rfl | rfl | rfl | rfl | rfl | rfl | rfl | rfl <;> simp
      clear hkd
      refine w_seq ?_
      refine W.mono (Q := fun fl e => fl = .nx ∧ ∃ kd, e = [.own true tp1, .val (.tup (ss.map D.str)), .val (.int size), .val (.int depth), .val (.int level), .val kd, .un, .un, .un] ∧ ((kd = .str "or" ∧ 2 ≤ size) ∨ (kd = .str "and" ∧ 2 ≤ size) ∨ kd = .str "not" ∨ kd = .str "leaf")) ?_ (fun fl e ⟨hfl, kd, he, hkd⟩ => ?_)
      · rcases hkd' with rfl | rfl | rfl | rfl <;> simp [ofString_inj] <;> omega
      · subst hfl he
        rw [seqK_nx]
        have bin : ∀ (rank : Int) (kk : Str) (mk : Sx → Sx → Sx) (dp : Int), (∀ x y, (mk x y).d = .tup [.str kk, x.d, y.d]) → (∀ x y, x.ok ss → y.ok ss → (mk x y).ok ss) → (∀ x y, (mk x y).dep = max x.dep y.dep + 1) → 0 ≤ rank → rank ≤ 1 → 2 ≤ size → 0 ≤ dp → dp ≤ depth →
            W (mSeq (mAsg (mOp addD (.e (mC (.int 1))) (.e (mCall1 m__law_draw 0 [(.e (mOp subD (.e (mVar 2)) (.e (mC (.int 1)))))]))) (gN 7)) (mSeq (mAsg (mCall1 (m__law_sector fuel) 0 [(.e (mVar 1)), (.e (mVar 7)), (.e (mVar 3)), (.e (mVar 6))]) (gN 8))
              (mRet (mDisp .tup [(.e (mVar 5)), (.e (mVar 8)), (.e (mCall1 (m__law_sector fuel) 0 [(.e (mVar 1)), (.e (mOp subD (.e (mVar 2)) (.e (mVar 7)))), (.e (mVar 3)), (.e (mOp addD (.e (mVar 6)) (.e (mC (.int 1)))))]))])))
              [.own true tp1, .val (.tup (ss.map D.str)), .val (.int size), .val (.int dp), .val (.int level), .val (.str kk), .val (.int rank), .un, .un])
              fun fl e => Wo (retOf fl) fun d => W (ownAt e 0) fun b d1 => b = true ∧ Tape (n + 4 * P) d1 ∧ ∃ x : Sx, d = x.d ∧ x.ok ss ∧ x.dep ≤ g + 1 + 1 := fun rank kk mk dp m1 m2 m3 r0 r1 hs2 d0 d1 => by
          refine w_seq ?_
          simp
          refine (draw_ok (by omega) ht1 (by omega)).mono fun r tp2 ⟨ht2, j, hk, hj0, hj1⟩ => ?_
          subst hk
          rw [wo_add]
          refine w_seq ?_
          simp
          refine (ih fuel (n + 1 + 1) tp2 (1 + j) dp rank (by omega) (by omega) (by omega) d0 r0 (by split at h4 <;> split <;> omega) (by omega) ht2).mono fun r tp3 ⟨ht3, x, hx, hxo, hxd⟩ => ?_
          subst hx
          refine (ih fuel (n + 1 + 1 + P) tp3 (size - (1 + j)) dp (rank + 1) (by omega) (by omega) (by omega) d0 (by omega) (by split at h4 <;> split <;> omega) (by omega) ht3).mono fun r tp4 ⟨ht4, y, hy, hyo, hyd⟩ => ?_
          subst hy
          exact ⟨ht4.mono (by omega), mk x y, (m1 x y).symm, m2 x y hxo hyo, by rw [m3]; omega⟩
        rcases hkd with ⟨rfl, hs2⟩ | ⟨rfl, hs2⟩ | rfl | rfl
        · refine w_seq ?_
          simp [ofString_inj]
          refine w_seq ?_
          simp
          rw [idx_or]
          refine w_seq ?_
          simp
          refine ⟨fun hl => ⟨fun hd => ?_, fun hd => ?_⟩, fun hl => ?_⟩
          · exact leaf _ tp1 (by omega) ht1
          · refine w_seq ?_
            simp [hl]
            refine w_seq ?_
            simp [ofString_inj]
            exact bin 0 "or" .or (depth - 1) (fun _ _ => rfl) (fun _ _ a b => ⟨a, b⟩) (fun _ _ => rfl) (by decide) (by decide) hs2 (by omega) (by omega)
          · refine w_seq ?_
            have : ¬ 0 < level := by omega
            simp [this]
            refine w_seq ?_
            simp [ofString_inj]
            exact bin 0 "or" .or depth (fun _ _ => rfl) (fun _ _ a b => ⟨a, b⟩) (fun _ _ => rfl) (by decide) (by decide) hs2 h2 (by omega)
        · refine w_seq ?_
          simp [ofString_inj]
          refine w_seq ?_
          simp
          rw [idx_and]
          refine w_seq ?_
          simp
          refine ⟨fun hl => ⟨fun hd => ?_, fun hd => ?_⟩, fun hl => ?_⟩
          · exact leaf _ tp1 (by omega) ht1
          · refine w_seq ?_
            simp [hl]
            refine w_seq ?_
            simp [ofString_inj]
            exact bin 1 "and" .and (depth - 1) (fun _ _ => rfl) (fun _ _ a b => ⟨a, b⟩) (fun _ _ => rfl) (by decide) (by decide) hs2 (by omega) (by omega)
          · refine w_seq ?_
            have : ¬ 1 < level := by omega
            simp [this]
            refine w_seq ?_
            simp [ofString_inj]
            exact bin 1 "and" .and depth (fun _ _ => rfl) (fun _ _ a b => ⟨a, b⟩) (fun _ _ => rfl) (by decide) (by decide) hs2 h2 (by omega)
        · refine w_seq ?_
          simp [ofString_inj]
          refine w_seq ?_
          simp
          rw [idx_not]
          refine w_seq ?_
          simp
          refine ⟨fun hl => ⟨fun hd => ?_, fun hd => ?_⟩, fun hl => ?_⟩
          · exact leaf _ tp1 (by omega) ht1
          · refine w_seq ?_
            simp [hl]
            refine w_seq ?_
            simp
            refine (ih fuel (n + 1) tp1 size (depth - 1) 3 (by omega) h1 hsz (by omega) (by omega) (by split at h4 <;> split <;> omega) (by omega) ht1).mono fun r tp3 ⟨ht3, x, hx, hxo, hxd⟩ => ?_
            subst hx
            exact ⟨ht3.mono (by omega), .not x, rfl, hxo, by show x.dep + 1 ≤ _; omega⟩
          · refine w_seq ?_
            have : ¬ 2 < level := by omega
            simp [this]
            refine w_seq ?_
            simp
            refine (ih fuel (n + 1) tp1 size depth 3 (by omega) h1 hsz h2 (by omega) (by split at h4 <;> split <;> omega) (by omega) ht1).mono fun r tp3 ⟨ht3, x, hx, hxo, hxd⟩ => ?_
            subst hx
            exact ⟨ht3.mono (by omega), .not x, rfl, hxo, by show x.dep + 1 ≤ _; omega⟩
        · refine w_seq ?_
          simp
          exact leaf _ tp1 (by omega) ht1
end Mir
namespace Mir
open PySem L2
/-! ### sameness -/
def D.tr : Nat → D → Prop
  | _, .non => True
  | _, .bl _ => True
  | _, .int _ => True
  | _, .str _ => True
  | k + 1, .tup ds => ds.length ≤ 100000 ∧ ∀ d ∈ ds, D.tr k d
  | _, _ => False
theorem D.tr_mono : ∀ {k j : Nat} {d : D}, k ≤ j → D.tr k d → D.tr j d := by
  intro k
  induction k with
  | zero =>
    intro j d _ h
    cases d <;> first | exact h.elim | (cases j <;> trivial)
  | succ k ih =>
    intro j d hl h
    cases j with
    | zero => omega
    | succ j =>
      cases d <;> first | exact h.elim | trivial | exact ⟨h.1, fun x hx => ih (by omega) (h.2 x hx)⟩
theorem Sx.tr : ∀ x : Sx, D.tr (x.dep + 1) x.d
  | .all => ⟨Nat.le_of_ble_eq_true rfl, fun d hd => by simp at hd; subst hd; trivial⟩
  | .none => ⟨Nat.le_of_ble_eq_true rfl, fun d hd => by simp at hd; subst hd; trivial⟩
  | .sec s => ⟨Nat.le_of_ble_eq_true rfl, fun d hd => by simp at hd; rcases hd with rfl | rfl <;> trivial⟩
  | .not x => ⟨Nat.le_of_ble_eq_true rfl, fun d hd => by
      simp at hd
      rcases hd with rfl | rfl
      · exact (show D.tr _ (D.str _) from by cases (Sx.not x).dep <;> trivial)
      · exact Sx.tr x⟩
  | .and x y => ⟨Nat.le_of_ble_eq_true rfl, fun d hd => by
      simp at hd
      rcases hd with rfl | rfl | rfl
      · exact (show D.tr _ (D.str _) from by cases (Sx.and x y).dep <;> trivial)
      · exact D.tr_mono (by show x.dep + 1 ≤ max x.dep y.dep + 1; omega) (Sx.tr x)
      · exact D.tr_mono (by show y.dep + 1 ≤ max x.dep y.dep + 1; omega) (Sx.tr y)⟩
  | .or x y => ⟨Nat.le_of_ble_eq_true rfl, fun d hd => by
      simp at hd
      rcases hd with rfl | rfl | rfl
      · exact (show D.tr _ (D.str _) from by cases (Sx.or x y).dep <;> trivial)
      · exact D.tr_mono (by show x.dep + 1 ≤ max x.dep y.dep + 1; omega) (Sx.tr x)
      · exact D.tr_mono (by show y.dep + 1 ≤ max x.dep y.dep + 1; omega) (Sx.tr y)⟩
theorem wo_eqB {R : D → Prop} {a b : Bool} : Wo (eqD (.bl a) (.bl b)) R ↔ R (.bl (decide (a = b))) := by with_unfolding_all exact Iff.rfl
theorem isi_tt {ds : List D} : isiF [.tup ds, .ty "tuple"] = some (.bl true) := rfl
theorem isi_it {i : Int} : isiF [.int i, .ty "tuple"] = some (.bl false) := rfl
theorem isi_bt {b : Bool} : isiF [.bl b, .ty "tuple"] = some (.bl false) := rfl
theorem isi_st {s : Str} : isiF [.str s, .ty "tuple"] = some (.bl false) := rfl
theorem isi_bb {b : Bool} : isiF [.bl b, .ty "bool"] = some (.bl true) := rfl
theorem isi_ib {i : Int} : isiF [.int i, .ty "bool"] = some (.bl false) := rfl
theorem isi_sb {s : Str} : isiF [.str s, .ty "bool"] = some (.bl false) := rfl
theorem isi_ss {s : Str} : isiF [.str s, .ty "str"] = some (.bl true) := rfl
theorem isi_is {i : Int} : isiF [.int i, .ty "str"] = some (.bl false) := rfl
theorem isi_ii {i : Int} : isiF [.int i, .ty "int"] = some (.bl true) := rfl
def J_same (d : D) (_ : Nat) (e : Env) : Prop := ∃ a, e = [.val d, .val d, a] ∧ Pl a
theorem same_ok : ∀ (k fuel : Nat) (d : D), k < fuel → D.tr k d → Wo (m__law_same fuel [d, d]) fun r => r = .bl true := by
  intro k
  induction k with
  | zero =>
    intro fuel d hf hd
    cases fuel with
    | zero => omega
    | succ fuel =>
      unfold m__law_same
      refine w_run0 rfl ?_
      unfold m__law_same_B
      cases d with
      | non => simp [w_seqI]
      | bl b => simp [w_seqI, isi_bt, isi_bb, wo_eqB]
      | int i => simp [w_seqI, isi_it, isi_ib, isi_is, isi_ii]
      | str s => simp [w_seqI, isi_st, isi_sb, isi_ss]
      | _ => exact hd.elim
  | succ k ih =>
    intro fuel d hf hd
    cases fuel with
    | zero => omega
    | succ fuel =>
      unfold m__law_same
      refine w_run0 rfl ?_
      unfold m__law_same_B
      cases d with
      | non => simp [w_seqI]
      | bl b => simp [w_seqI, isi_bt, isi_bb, wo_eqB]
      | int i => simp [w_seqI, isi_it, isi_ib, isi_is, isi_ii]
      | str s => simp [w_seqI, isi_st, isi_sb, isi_ss]
      | tup ds =>
        obtain ⟨hl, hds⟩ := hd
        refine w_seq ?_
        simp
        refine w_seq ?_
        simp [isi_tt]
        refine w_seq ?_
        simp [isi_tt]
        refine w_seq ?_
        refine w_for.mpr ?_
        simp
        refine ⟨by omega, wfor_inv (J_same (.tup ds)) ⟨.un, rfl, Pl_un⟩ (fun i x e hx ⟨a, he, ha⟩ => ?_) (fun e ⟨a, he, ha⟩ => ?_)⟩
        · subst he
          have hi := (List.getElem?_eq_some_iff.mp hx).1
          rw [rngL_length] at hi
          have hdi := rngL_get hx
          rw [Int.zero_add] at hdi
          subst hdi
          rw [wo_gN]
          simp [setV_pl, ha]
          unfold m__law_same_1
          have hix : ds[((i : Nat) : Int).toNat]? = some ds[i] := by simp [hi]
          try simp
          rw [wo_ixT (by omega) hix]
          try simp
          rw [wo_ixT (by omega) hix]
          try simp
          refine (ih fuel ds[i] (by omega) (hds _ (List.getElem_mem hi))).mono fun r hr => ?_
          subst hr
          simp
          exact ⟨_, rfl, Pl_val⟩
        · subst he
          simp
      | _ => exact hd.elim
end Mir
/-! What is drawn: numbers, entries, kinds, names. -/
namespace Mir
open PySem L2
theorem tr_str {k : Nat} {s : Str} : D.tr k (.str s) := by cases k <;> trivial
theorem tr_int {k : Nat} {i : Int} : D.tr k (.int i) := by cases k <;> trivial
theorem tr_non {k : Nat} : D.tr k .non := by cases k <;> trivial
theorem tr_bl {k : Nat} {b : Bool} : D.tr k (.bl b) := by cases k <;> trivial
theorem tr_tup (k : Nat) {ds : List D} (h : ds.length ≤ 100000) (q : ∀ d ∈ ds, D.tr k d) : D.tr (k + 1) (.tup ds) := ⟨h, q⟩
theorem some_ok {n : Nat} {tp : D} {ss : List Str} {level : Int} (hss : ss.length ≤ 30) (hn : n < 2 ^ 45) (h : Tape n tp) (h0 : 0 ≤ level) : W (m__law_some_sector [tp, tS ss, .int 2, .int level]) fun r tp' => Tape (n + 1100000) tp' ∧ ∃ x : Sx, r = x.d ∧ x.ok ss ∧ x.dep ≤ 10 := by
  unfold m__law_some_sector
  refine w_run1 rfl ?_
  unfold m__law_some_sector_B
  refine w_seq ?_
  simp
  refine (draw_ok (by omega) h (by decide)).mono fun r tp1 ⟨ht1, k, hk, hk0, hk1⟩ => ?_
  subst hk
  refine w_seq ?_
  simp
  have hm : 1 ≤ (if 1 + k < 2 then 1 + k else 2) ∧ (if 1 + k < 2 then 1 + k else 2) ≤ 2 := by split <;> omega
  refine (sector_ok hss 9 40 (n + 1) tp1 (if 1 + k < 2 then 1 + k else 2) 2 level (by decide) hm.1 (by omega) (by decide) h0 (by split <;> omega) (by omega) ht1).mono fun r tp2 ⟨ht2, x, hx, hxo, hxd⟩ => ?_
  subst hx
  exact ⟨ht2.mono (by omega), x, rfl, hxo, hxd⟩
theorem number_ok {n : Nat} {tp : D} {w : Int} (hw : w = 0 ∨ w = 1) (hn : n < 2 ^ 50) (h : Tape n tp) : W (m__law_number [tp, .int w]) fun r tp' => Tape (n + 3) tp' ∧ ∃ k : Int, r = .int k ∧ k.natAbs < 2 ^ 20 ∧ k ≠ 0 := by
  unfold m__law_number
  refine w_run1 rfl ?_
  unfold m__law_number_B
  refine w_seq ?_
  simp
  refine w_seq ?_
  refine W.mono (Q := fun fl e => fl = .nx ∧ ∃ (tp1 : D) (zs : List Int), e = [.own true tp1, .val (.int w), .val (.lst (zs.map D.int)), .un] ∧ Tape (n + 1) tp1 ∧ zs ≠ [] ∧ zs.length ≤ 8 ∧ ∀ z ∈ zs, z.natAbs < 2 ^ 20 ∧ z ≠ 0) ?_ (fun fl e ⟨hfl, tp1, zs, he, ht1, hz0, hz1, hz⟩ => ?_)
  · rcases hw with rfl | rfl
    · simp
      exact ⟨tp, [1, 1, 1, 2, 2, 3], ⟨rfl, rfl⟩, h.mono (by omega), by simp, by simp, by decide⟩
    · simp
      refine (draw_ok (by omega) h (by decide)).mono fun r tp1 ⟨ht1, k, hk, hk0, hk1⟩ => ?_
      subst hk
      simp
      refine ⟨tp1, [1, 1, 1, 2, 10, 9999, 100, 1 + k], ⟨rfl, rfl⟩, ht1, by simp, by simp, fun z hz => ?_⟩
      simp at hz
      rcases hz with rfl | rfl | rfl | rfl | rfl | rfl <;> omega
  · subst hfl he
    rw [seqK_nx]
    have hzl : 0 < zs.length := List.length_pos_iff.mpr hz0
    refine w_seq ?_
    simp
    refine (draw_ok (by omega) ht1 (by omega)).mono fun r tp2 ⟨ht2, k2, hk, hk20, hk21⟩ => ?_
    subst hk
    refine wo_ixM hk20 (by omega) fun c hc => ?_
    have hcz := hz c (List.mem_of_getElem? hc)
    simp
    refine (draw_ok (by omega) ht2 (by decide)).mono fun r tp3 ⟨ht3, k3, hk, hk30, hk31⟩ => ?_
    subst hk
    refine wo_ixAny hk30 (by simp; omega) fun d hd => ?_
    refine ⟨ht3.mono (by omega), ?_⟩
    simp at hd
    rcases hd with rfl | rfl
    · exact ⟨_, rfl, hcz.1, hcz.2⟩
    · exact ⟨_, rfl, by omega, by omega⟩
theorem perm_eraseS : ∀ {left : List Str} {k : Nat} {c : Str}, left[k]? = some c → List.Perm left (c :: left.eraseIdx k)
  | x :: xs, 0, c, h => by simp at h; subst h; exact List.Perm.refl _
  | x :: xs, k + 1, c, h => by
    have := perm_eraseS (left := xs) (k := k) (c := c) (by simpa using h)
    exact (this.cons x).trans (List.Perm.swap ..)
  | [], k, c, h => by simp at h
theorem perm_moveS {used left ac : List Str} {k : Nat} {c : Str} (h : List.Perm ac (used ++ left)) (hc : left[k]? = some c) : List.Perm ac ((used ++ [c]) ++ left.eraseIdx k) := by
  refine h.trans ?_
  rw [List.append_assoc]
  exact (perm_eraseS hc).append_left used
theorem erase_mapS : ∀ (left : List Str) (k : Nat), (left.map D.str).eraseIdx k = (left.eraseIdx k).map D.str
  | [], _ => rfl
  | x :: xs, 0 => rfl
  | x :: xs, k + 1 => by simp [erase_mapS xs k]
def J_en (n : Nat) (acs : D) (w : Int) (ac : List Str) (i : Nat) (e : Env) : Prop := ∃ (tp : D) (left : List Str) (es : List En) (a b : Sl), e = [.own true tp, .val acs, .val (.int w), .own false (.lst (left.map D.str)), .own false (.lst (es.map enD)), a, b] ∧ Tape (n + 4 * i) tp ∧ left.length = ac.length - i ∧ es.length = i ∧ List.Perm ac (es.map Prod.fst ++ left) ∧ (∀ p ∈ es, p.2.natAbs < 2 ^ 20) ∧ Pl a ∧ Pl b
theorem entries_ok {n : Nat} {tp : D} {ac : List Str} {w : Int} (hw : w = 0 ∨ w = 1) (hl : ac.length ≤ 4) (hnd : ac.Nodup) (hn : n < 2 ^ 45) (h : Tape n tp) : W (m__law_entries [tp, tS ac, .int w]) fun r tp' => Tape (n + 30) tp' ∧ ∃ es : List En, r = .tup (es.map enD) ∧ EsOk ac es := by
  unfold m__law_entries
  refine w_run1 rfl ?_
  unfold m__law_entries_B
  refine w_seq ?_
  simp
  refine w_seq ?_
  simp
  refine w_seq ?_
  refine w_for.mpr ?_
  simp
  refine (draw_ok (by omega) h (by omega)).mono fun r tp1 ⟨ht1, k, hk, hk0, hk1⟩ => ?_
  subst hk
  rw [w_rng1]
  refine ⟨by omega, wfor_inv (J_en (n + 1) (tS ac) w ac) ⟨tp1, ac, [], .un, .un, rfl, ht1.mono (by omega), rfl, rfl, List.Perm.refl _, fun p hp => (by cases hp), Pl_un, Pl_un⟩ (fun i d e hd ⟨tp, left, es, a, b, he, ht, hlf, hes, hpm, hsm, ha, hb⟩ => ?_) (fun e ⟨tp, left, es, a, b, he, ht, hlf, hes, hpm, hsm, ha, hb⟩ => ?_)⟩
  · subst he
    have hi := (List.getElem?_eq_some_iff.mp hd).1
    rw [rngL_length] at hi
    rw [wo_gN]
    simp [setV_pl, ha]
    unfold m__law_entries_1
    refine w_seq ?_
    simp
    refine (draw_ok (by omega) ht (by omega)).mono fun r tp2 ⟨ht2, k2, hk, hk20, hk21⟩ => ?_
    subst hk
    refine w_popAt hk20 (by rw [List.length_map]; omega) (by omega) fun y hy => ?_
    rw [List.getElem?_map] at hy
    obtain ⟨s, hs, rfl⟩ := Option.map_eq_some_iff.mp hy
    simp [setV_pl, hb]
    refine (number_ok hw (by omega) ht2).mono fun r tp3 ⟨ht3, z, hz, hz2, _⟩ => ?_
    subst hz
    rw [erase_mapS]
    have e1 : List.map enD es ++ [D.tup [D.str s, D.int z]] = (es ++ [(s, z)]).map enD := by simp [enD]
    rw [e1]
    refine ⟨by omega, tp3, left.eraseIdx k2.toNat, es ++ [(s, z)], _, _, rfl, ht3.mono (by omega), ?_, by simp [hes], ?_, fun p hp => ?_, Pl_val, Pl_val⟩
    · rw [List.length_eraseIdx_of_lt (by omega)]; omega
    · rw [List.map_append]; exact perm_moveS hpm hs
    · rcases List.mem_append.mp hp with hp | hp
      · exact hsm p hp
      · simp at hp; subst hp; exact hz2
  · subst he
    rw [rngL_length] at ht hes
    have nd := (List.nodup_append.mp (hpm.nodup_iff.mp hnd)).1
    simp
    refine ⟨ht.mono (by omega), es, rfl, nd, fun p hp => ?_, hsm, by omega⟩
    exact hpm.mem_iff.mpr (List.mem_append_left _ (List.mem_map_of_mem hp))
def negE (es : List En) : List En := es.map fun p => (p.1, -p.2)
theorem negE_ok {ac : List Str} {es : List En} (h : EsOk ac es) : EsOk ac (negE es) := by
  refine ⟨?_, fun p hp => ?_, fun p hp => ?_, by simpa [negE] using h.len⟩
  · have e1 : (negE es).map Prod.fst = es.map Prod.fst := by simp [negE, Function.comp_def]
    rw [e1]; exact h.nd
  · obtain ⟨q, hq, rfl⟩ := List.mem_map.mp hp
    exact h.mem q hq
  · obtain ⟨q, hq, rfl⟩ := List.mem_map.mp hp
    have := h.small q hq
    simp only
    omega
def fNg : D → D
  | .tup [.str s, .int i] => .tup [.str s, .int (-i)]
  | _ => .non
theorem neg_ok {es : List En} (h : es.length ≤ 1000) : Wo (m__law_negated [.tup (es.map enD)]) fun r => r = .tup ((negE es).map enD) := by
  unfold m__law_negated
  refine w_run0 rfl ?_
  unfold m__law_negated_B
  simp
  refine wlc_pureE fNg ?_
  simp [backE]
  refine ⟨by omega, fun d s i _ hd => ?_, ?_⟩
  · subst hd
    simp [enD, fNg]
  · simp [enD, fNg, negE, Function.comp_def]
/-! kinds -/
structure Kin.ok (ss ac : List Str) (k : Kin) : Prop where
  okx : k.px.ok ss
  dpx : k.px.dep ≤ 10
  oky : k.py.ok ss
  dpy : k.py.dep ≤ 10
  g : EsOk ac k.giv
  t : EsOk ac k.tak
theorem kind_ok {n : Nat} {tp : D} {ss ac : List Str} {nm : Str} {w : Int} (hw : w = 0 ∨ w = 1) (hss : ss.length ≤ 30) (hac : ac.length ≤ 4) (hnd : ac.Nodup) (hn : n < 2 ^ 44) (h : Tape n tp) : W (m__law_kind [tp, .str nm, tS ss, tS ac, .int 2, .int w]) fun r tp' => Tape (n + 3000000) tp' ∧ ∃ k : Kin, r = k.d ∧ k.nm = nm ∧ k.ok ss ac := by
  unfold m__law_kind
  refine w_run1 rfl ?_
  unfold m__law_kind_B
  refine w_seq ?_
  simp
  refine (some_ok hss (by omega) h (by decide)).mono fun r tp1 ⟨ht1, x, hx, hx1, hx2⟩ => ?_
  subst hx
  refine w_seq ?_
  simp
  refine (some_ok hss (by omega) ht1 (by decide)).mono fun r2 tp2 ⟨ht2, y, hy, hy1, hy2⟩ => ?_
  subst hy
  refine w_seq ?_
  simp
  refine (entries_ok hw hac hnd (by omega) ht2).mono fun r3 tp3 ⟨ht3, e3, he3, hl3⟩ => ?_
  subst he3
  refine w_seq ?_
  simp
  refine (entries_ok hw hac hnd (by omega) ht3).mono fun r4 tp4 ⟨ht4, e4, he4, hl4⟩ => ?_
  subst he4
  refine w_seq ?_
  simp
  refine (draw_ok (by omega) ht4 (by decide)).mono fun r5 tp5 ⟨ht5, k, hk, hk0, hk1⟩ => ?_
  subst hk
  have fin : ∀ es : List En, EsOk ac es → Tape (n + 3000000) tp5 ∧ ∃ k : Kin, D.tup [.str nm, x.d, .tup (e3.map enD), y.d, .tup (es.map enD)] = k.d ∧ k.nm = nm ∧ k.ok ss ac := fun es hes =>
    ⟨ht5.mono (by omega), ⟨nm, x, e3, y, es⟩, rfl, rfl, hx1, hx2, hy1, hy2, hl3, hes⟩
  simp
  refine ⟨fun _ => ?_, fun _ => ?_⟩
  · have := hl3.len
    refine (neg_ok (by omega)).mono fun r6 hr6 => ?_
    subst hr6
    have := fin _ (negE_ok hl3)
    simpa using this
  · have := fin e4 hl4
    simpa using this
/-! names -/
theorem cutD_mid {ds : List D} {lo hi : Nat} (h1 : lo ≤ ds.length) (h2 : hi ≤ ds.length) : cutD ds (some (lo : Int)) (some (hi : Int)) = (ds.drop lo).take (hi - lo) := by
  unfold cutD
  rw [HT.sIx_nat, HT.sIx_nat, Nat.min_eq_left h1, Nat.min_eq_left h2]
theorem cutD_take {ds : List D} {k : Nat} (h : k ≤ ds.length) : cutD ds none (some (k : Int)) = ds.take k := by
  unfold cutD
  rw [HT.sIx_nat, HT.sIx_none, List.drop_zero, Nat.sub_zero, Nat.min_eq_left h]
theorem cutD_drop {ds : List D} {k : Nat} (h : k ≤ ds.length) : cutD ds (some (k : Int)) none = ds.drop k := by
  unfold cutD
  rw [HT.sIx_nat, HT.sIx_none, Nat.min_eq_left h, List.take_of_length_le (by rw [List.length_drop]; omega)]
theorem lists_ok {n : Nat} {tp : D} {A : Nat} (hA : 1 ≤ A) (hA4 : A ≤ 4) (hn : n < 2 ^ 43) (h : Tape n tp) : W (m__law_lists [tp, .tup [.int 3, .int (A : Int)]]) fun r tp' => Tape (n + 1100) tp' ∧ ∃ ss ac lb : List Str, r = .tup [tS ss, tS ac, .lst (lb.map D.str)] ∧ ss.length ≤ 3 ∧ ss.Nodup ∧ 1 ≤ ac.length ∧ ac.length ≤ A ∧ ac.Nodup ∧ lb.Nodup ∧ 18 ≤ lb.length ∧ lb.length ≤ 25 ∧ (∀ s ∈ ss, PyData.strOk s = true) ∧ (∀ s ∈ ac, PyData.strOk s = true) ∧ ∀ s ∈ lb, PyData.strOk s = true := by
  unfold m__law_lists
  refine w_run1 rfl ?_
  unfold m__law_lists_B
  refine w_seq ?_
  simp
  refine (names_ok (by omega) h (by decide) (by decide)).mono fun r tp1 ⟨ht1, names, hr, hnl, hnd, hsk⟩ => ?_
  subst hr
  have hnl' : names.length = 25 := hnl
  refine w_seq ?_
  simp
  refine (draw_ok (by omega) ht1 (by decide)).mono fun r tp2 ⟨ht2, k, hk, hk0, hk1⟩ => ?_
  subst hk
  obtain ⟨many, rfl, hmany⟩ : ∃ many : Nat, k = (many : Int) ∧ many ≤ 3 := ⟨k.toNat, by omega, by omega⟩
  refine w_seq ?_
  simp
  refine (draw_ok (by omega) ht2 (by decide)).mono fun r tp3 ⟨ht3, k3, hk, hk30, hk31⟩ => ?_
  subst hk
  refine wo_ixAny hk30 (by simp; omega) fun d hd => ?_
  have hd' : ∃ first : Nat, d = .int (first : Int) ∧ first ≤ 3 := by
    simp at hd
    rcases hd with rfl | rfl | rfl
    · exact ⟨0, rfl, by omega⟩
    · exact ⟨many, rfl, hmany⟩
    · exact ⟨1, rfl, by omega⟩
  obtain ⟨first, rfl, hf⟩ := hd'
  refine w_seq ?_
  simp
  refine (draw_ok (by omega) ht3 (by omega)).mono fun r tp4 ⟨ht4, k4, hk, hk40, hk41⟩ => ?_
  subst hk
  obtain ⟨j, rfl, hj⟩ : ∃ j : Nat, k4 = (j : Int) ∧ j < A := ⟨k4.toNat, by omega, by omega⟩
  simp
  have e1 : ((first : Int) + 1 + (j : Int)) = ((first + 1 + j : Nat) : Int) := by omega
  rw [e1, cutD_mid (by rw [List.length_map]; omega) (by rw [List.length_map]; omega)]
  rw [cutD_take (by rw [List.length_map]; omega)]
  refine (draw_ok (by omega) ht4 (by decide)).mono fun r tp5 ⟨ht5, k5, hk, hk50, hk51⟩ => ?_
  subst hk
  refine wo_ixAny hk50 (by simp; omega) fun d hd => ?_
  have hd' : ∃ cut : Nat, d = .int (cut : Int) ∧ cut ≤ 7 := by
    simp at hd
    rcases hd with rfl | rfl
    · exact ⟨3, rfl, by omega⟩
    · exact ⟨7, rfl, by omega⟩
  obtain ⟨cut, rfl, hc⟩ := hd'
  simp
  rw [cutD_drop (by rw [List.length_map]; omega)]
  refine ⟨ht5.mono (by omega), names.take many, (names.drop first).take (first + 1 + j - first), names.drop cut, ⟨?_, ?_, ?_⟩, ?_, ?_, ?_, ?_, ?_, ?_, ?_, ?_, fun s hs => (hsk s (List.mem_of_mem_take hs)).2, fun s hs => (hsk s (List.mem_of_mem_drop (List.mem_of_mem_take hs))).2, fun s hs => (hsk s (List.mem_of_mem_drop hs)).2⟩
  · rw [← List.map_take]
  · rw [← List.map_drop, ← List.map_take]
  · rw [← List.map_drop]
  · rw [List.length_take]; omega
  · exact hnd.sublist (List.take_sublist _ _)
  · rw [List.length_take, List.length_drop]; omega
  · rw [List.length_take, List.length_drop]; omega
  · exact hnd.sublist ((List.take_sublist _ _).trans (List.drop_sublist _ _))
  · exact hnd.sublist (List.drop_sublist _ _)
  · rw [List.length_drop]; omega
  · rw [List.length_drop]; omega
end Mir
/-! Models, people, transactions. -/
namespace Mir
open PySem L2
theorem erase_mapE {α : Type} {f : α → D} : ∀ (left : List α) (k : Nat), (left.map f).eraseIdx k = (left.eraseIdx k).map f
  | [], _ => rfl
  | x :: xs, 0 => rfl
  | x :: xs, k + 1 => by simp [erase_mapE xs k]
theorem perm_eraseE {α : Type} : ∀ {left : List α} {k : Nat} {c : α}, left[k]? = some c → List.Perm left (c :: left.eraseIdx k)
  | x :: xs, 0, c, h => by simp at h; subst h; exact List.Perm.refl _
  | x :: xs, k + 1, c, h => by
    have := perm_eraseE (left := xs) (k := k) (c := c) (by simpa using h)
    exact (this.cons x).trans (List.Perm.swap ..)
  | [], k, c, h => by simp at h
theorem perm_moveE {α : Type} {used left ac : List α} {k : Nat} {c : α} (h : List.Perm ac (used ++ left)) (hc : left[k]? = some c) : List.Perm ac ((used ++ [c]) ++ left.eraseIdx k) := by
  refine h.trans ?_
  rw [List.append_assoc]
  exact (perm_eraseE hc).append_left used
theorem popE {α : Type} {f : α → D} {Q : D → D → Prop} {left : List α} {i : Int} (h0 : 0 ≤ i) (h1 : i < left.length) (h2 : left.length ≤ 1000) (q : ∀ s, left[i.toNat]? = some s → Q (f s) (.lst ((left.eraseIdx i.toNat).map f))) : W (popAtF (.lst (left.map f)) [.int i]) Q := by
  refine w_popAt h0 (by rw [List.length_map]; omega) (by omega) fun y hy => ?_
  rw [List.getElem?_map] at hy
  obtain ⟨s, hs, rfl⟩ := Option.map_eq_some_iff.mp hy
  rw [erase_mapE]
  exact q s hs
/-! an order -/
def J_or (n : Nat) (many : Nat) (i : Nat) (e : Env) : Prop := ∃ (tp : D) (left order : List Nat) (a : Sl), e = [.own true tp, .val (nD many), .own false (.lst (left.map nD)), .own false (.lst (order.map nD)), a] ∧ Tape (n + i) tp ∧ left.length = many - i ∧ order.length = i ∧ List.Perm (List.range many) (order ++ left) ∧ Pl a
theorem order_ok {n many : Nat} {tp : D} (hm : many ≤ 1000) (hn : n < 2 ^ 45) (h : Tape n tp) : W (m__law_order [tp, nD many]) fun r tp' => Tape (n + many) tp' ∧ ∃ order : List Nat, r = .lst (order.map nD) ∧ List.Perm (List.range many) order := by
  unfold m__law_order
  refine w_run1 rfl ?_
  unfold m__law_order_B
  refine w_seq ?_
  simp
  refine ⟨by omega, ?_⟩
  rw [rngL0]
  refine w_seq ?_
  try simp
  refine w_seq ?_
  refine w_for.mpr ?_
  simp
  refine ⟨by omega, ?_⟩
  rw [rngL0]
  refine wfor_inv (J_or n many) ⟨tp, List.range many, [], .un, rfl, h, by simp, rfl, List.Perm.refl _, Pl_un⟩ (fun i d e hd ⟨tp, left, order, a, he, ht, hlf, hol, hpm, ha⟩ => ?_) (fun e ⟨tp, left, order, a, he, ht, hlf, hol, hpm, ha⟩ => ?_)
  · subst he
    have hi := (List.getElem?_eq_some_iff.mp hd).1
    rw [List.length_map, List.length_range] at hi
    rw [wo_gN]
    simp [setV_pl, ha]
    unfold m__law_order_1
    simp
    refine (draw_ok (by omega) ht (by omega)).mono fun r tp2 ⟨ht2, k2, hk, hk20, hk21⟩ => ?_
    subst hk
    refine popE hk20 (by omega) (by omega) fun s hs => ?_
    try simp
    refine ⟨by omega, tp2, left.eraseIdx k2.toNat, order ++ [s], .val d, by simp, ht2.mono (by omega), ?_, by simp [hol], ?_, Pl_val⟩
    · rw [List.length_eraseIdx_of_lt (by omega)]; omega
    · have := perm_moveE hpm hs
      simpa using this
  · subst he
    rw [List.length_map, List.length_range] at ht hlf
    have : left = [] := List.length_eq_zero_iff.mp (by omega)
    subst this
    rw [List.append_nil] at hpm
    simp
    exact ⟨ht, order, rfl, hpm⟩
/-! models -/
def mdD (ss ac : List Str) (ks : List Kin) : D := .tup [tS ss, tS ac, .tup (ks.map Kin.d), .tup [], .tup []]
structure MdOk (ss ac lb : List Str) (K : Nat) (ks : List Kin) : Prop where
  len : ks.length ≤ K
  ok : ∀ k ∈ ks, k.ok ss ac
  nd : (ks.map Kin.nm).Nodup
  mem : ∀ k ∈ ks, k.nm ∈ lb
def J_md (n : Nat) (l m sd ad : D) (M w : Int) (ss ac lb : List Str) (i : Nat) (e : Env) : Prop := ∃ (tp : D) (left : List Str) (ks : List Kin) (a b c d : Sl), e = [.own true tp, .val l, .val m, .val (.int M), .val (.int 2), .val (.int w), .val sd, .val ad, .own false (.lst (left.map D.str)), .own false (.lst (ks.map Kin.d)), a, b, c, d] ∧ Tape (n + 3000010 * i) tp ∧ left.length = lb.length - i ∧ ks.length = i ∧ (∀ k ∈ ks, k.ok ss ac) ∧ List.Perm lb (ks.map Kin.nm ++ left) ∧ Pl a ∧ Pl b ∧ Pl c ∧ Pl d
theorem rngL00 : rngL 0 0 = [] := rfl
theorem model_ok {n K : Nat} {tp : D} {ss ac lb : List Str} {M w : Int} (hw : w = 0 ∨ w = 1) (hK : K ≤ 6) (hss : ss.length ≤ 3) (hac : ac.length ≤ 4) (hnd : ac.Nodup) (hlb : 18 ≤ lb.length) (hlb2 : lb.length ≤ 25) (hlbn : lb.Nodup) (hn : n < 2 ^ 42) (h : Tape n tp) :
    W (m__law_model [tp, .tup [tS ss, tS ac, .lst (lb.map D.str)], .tup [nD K, .int 0, .int 0], .int M, .int 2, .int w]) fun r tp' => Tape (n + 30000000) tp' ∧ ∃ ks : List Kin, r = mdD ss ac ks ∧ MdOk ss ac lb K ks := by
  unfold m__law_model
  refine w_run1 rfl ?_
  unfold m__law_model_B
  refine w_seq ?_
  simp
  refine w_seq ?_
  simp
  refine w_seq ?_
  simp
  refine w_seq ?_
  simp
  refine w_seq ?_
  refine w_for.mpr ?_
  simp
  refine (draw_ok (by omega) h (by omega)).mono fun r tp1 ⟨ht1, k, hk, hk0, hk1⟩ => ?_
  subst hk
  rw [w_rng1]
  refine ⟨by omega, wfor_inv (J_md (n + 1) (.tup [tS ss, tS ac, .lst (lb.map D.str)]) (.tup [nD K, .int 0, .int 0]) (tS ss) (tS ac) M w ss ac lb) ⟨tp1, lb, [], .un, .un, .un, .un, rfl, ht1, rfl, rfl, fun r hr => (by cases hr), List.Perm.refl _, by simp⟩ (fun i d e hd ⟨tp, left, ks, a, b, c, d', he, ht, hlf, hkl, hks, hpm, ha, hb, hc, hd'⟩ => ?_) (fun e ⟨tp, left, ks, a, b, c, d', he, ht, hlf, hkl, hks, hpm, ha, hb, hc, hd'⟩ => ?_)⟩
  · subst he
    have hi := (List.getElem?_eq_some_iff.mp hd).1
    rw [rngL_length] at hi
    rw [wo_gN]
    simp [setV_pl, ha]
    unfold m__law_model_1
    simp
    refine (draw_ok (by omega) ht (by omega)).mono fun r tp2 ⟨ht2, k2, hk, hk20, hk21⟩ => ?_
    subst hk
    refine popE hk20 (by omega) (by omega) fun s hs => ?_
    try simp
    refine (kind_ok hw (by omega) hac hnd (by omega) ht2).mono fun r tp3 ⟨ht3, kd, hr, hnm, hok⟩ => ?_
    subst hr
    have e1 : ks.map Kin.d ++ [kd.d] = (ks ++ [kd]).map Kin.d := by simp
    try simp
    rw [e1]
    refine ⟨by omega, tp3, left.eraseIdx k2.toNat, ks ++ [kd], _, b, c, d', rfl, ht3.mono (by omega), ?_, by simp [hkl], ?_, ?_, Pl_val, hb, hc, hd'⟩
    · rw [List.length_eraseIdx_of_lt (by omega)]; omega
    · intro x hx
      rcases List.mem_append.mp hx with hx | hx
      · exact hks x hx
      · simp at hx; subst hx; exact hok
    · have := perm_moveE hpm hs
      rw [List.map_append, List.map_singleton, hnm]
      exact this
  · subst he
    rw [rngL_length] at ht hlf hkl
    refine w_seq ?_
    simp [setO_pl, hb]
    refine w_seq ?_
    refine w_for.mpr ?_
    simp
    refine (draw_ok (by omega) ht (by decide)).mono fun r tp2 ⟨ht2, k2, hk, hk20, hk21⟩ => ?_
    subst hk
    have z2 : k2 = 0 := by omega
    subst z2
    simp [rngL00]
    refine w_seq ?_
    simp [setO_pl, hd']
    refine w_seq ?_
    refine w_for.mpr ?_
    simp
    refine (draw_ok (by omega) ht2 (by decide)).mono fun r tp3 ⟨ht3, k3, hk, hk30, hk31⟩ => ?_
    subst hk
    have z3 : k3 = 0 := by omega
    subst z3
    simp [rngL00]
    have hnn := List.nodup_append.mp (hpm.nodup_iff.mp hlbn)
    refine ⟨ht3.mono (by omega), ks, rfl, by omega, hks, hnn.1, fun x hx => hpm.mem_iff.mpr (List.mem_append_left _ (List.mem_map_of_mem hx))⟩
/-! people -/
def setsL (ss : List Str) : List (List Str) := ss.foldl (fun rows s => rows ++ rows.map fun row => row ++ [s]) [[]]
theorem setsL_snoc (ss : List Str) (s : Str) : setsL (ss ++ [s]) = setsL ss ++ (setsL ss).map fun row => row ++ [s] := by
  unfold setsL; rw [List.foldl_append]; rfl
theorem setsL_len0 : ∀ (ss : List Str) (acc : List (List Str)), (ss.foldl (fun rows s => rows ++ rows.map fun row => row ++ [s]) acc).length = acc.length * 2 ^ ss.length
  | [], acc => by simp
  | s :: ss, acc => by
    rw [List.foldl_cons, setsL_len0 ss, List.length_append, List.length_map, List.length_cons, Nat.pow_succ, Nat.mul_comm (2 ^ ss.length) 2, ← Nat.mul_assoc]
    congr 1
    omega
theorem setsL_len (ss : List Str) : (setsL ss).length = 2 ^ ss.length := by
  unfold setsL
  rw [setsL_len0]; simp
theorem setsL_row0 : ∀ (ss : List Str) (acc : List (List Str)) (pre : List Str), (∀ row ∈ acc, row.Sublist pre) → ∀ row ∈ ss.foldl (fun rows s => rows ++ rows.map fun row => row ++ [s]) acc, row.Sublist (pre ++ ss)
  | [], acc, pre, h, row, hr => by simpa using h row hr
  | s :: ss, acc, pre, h, row, hr => by
    rw [List.foldl_cons] at hr
    have := setsL_row0 ss _ (pre ++ [s]) (fun r hr => by
      rw [List.mem_append] at hr
      rcases hr with hr | hr
      · exact (h r hr).trans (List.sublist_append_left _ _)
      · obtain ⟨r', hr', rfl⟩ := List.mem_map.mp hr
        exact (h r' hr').append_right [s]) row hr
    simpa using this
theorem setsL_row (ss : List Str) : ∀ row ∈ setsL ss, row.Sublist ss := by
  have := setsL_row0 ss [[]] [] (fun row hr => by simp at hr; subst hr; exact List.Sublist.refl _)
  simpa [setsL] using this
def J_st (ss : List Str) (i : Nat) (e : Env) : Prop := ∃ (a b : Sl), e = [.val (tS ss), .val (.lst ((setsL (ss.take i)).map tS)), a, b] ∧ Pl a ∧ Pl b
def fSt (s : D) : D → D
  | .tup ds => .tup (ds ++ [s])
  | d => d
theorem sets_ok {ss : List Str} (hss : ss.length ≤ 3) : Wo (m__law_sets [tS ss]) fun r => r = .lst ((setsL ss).map tS) := by
  unfold m__law_sets
  refine w_run0 rfl ?_
  unfold m__law_sets_B
  refine w_seq ?_
  simp
  refine w_seq ?_
  refine w_for.mpr ?_
  simp
  refine wfor_inv (J_st ss) ⟨.un, .un, rfl, Pl_un, Pl_un⟩ (fun i d e hd ⟨a, b, he, ha, hb⟩ => ?_) (fun e ⟨a, b, he, ha, hb⟩ => ?_)
  · subst he
    have hi := (List.getElem?_eq_some_iff.mp hd).1
    rw [List.length_map] at hi
    rw [List.getElem?_map] at hd
    obtain ⟨s, hs, rfl⟩ := Option.map_eq_some_iff.mp hd
    have hl : (setsL (ss.take i)).length ≤ 8 := by
      rw [setsL_len]
      refine Nat.le_trans (Nat.pow_le_pow_right (by decide) (show (ss.take i).length ≤ 3 by rw [List.length_take]; omega)) (by decide)
    have hrow : ∀ row ∈ setsL (ss.take i), row.length ≤ 3 := fun row hr => by
      have := (setsL_row _ row hr).length_le
      rw [List.length_take] at this; omega
    rw [wo_gN]
    simp [setV_pl, ha]
    unfold m__law_sets_1
    simp
    refine wlc_pureE (fSt (.str s)) ?_
    simp [backE, ownAt_pl, hb]
    refine ⟨by omega, fun row hr => ?_, ?_⟩
    · have := hrow row hr
      refine ⟨by omega, ?_⟩
      simp [fSt]
    · refine ⟨by omega, .val (.str s), b, ?_, Pl_val, hb⟩
      have e1 : ss.take (i + 1) = ss.take i ++ [s] := by rw [List.take_add_one, hs]; rfl
      rw [e1, setsL_snoc]
      simp [fSt, tS, Function.comp_def]
  · subst he
    rw [List.length_map, List.take_length]
    simp
def PpOk (ss : List Str) (ps : List (List Str)) : Prop := ∀ p ∈ ps, p.Nodup ∧ (∀ s ∈ p, s ∈ ss) ∧ p.length ≤ 3
def J_pp (n : Nat) (ss : List Str) (many : Nat) (i : Nat) (e : Env) : Prop := ∃ (tp : D) (ps : List (List Str)) (a b c : Sl), e = [.own true tp, .val (tS ss), .val (nD many), .val (.lst ((setsL ss).map tS)), .own false (.lst (ps.map tS)), a, b, c] ∧ Tape (n + 4 * i) tp ∧ ps.length = i ∧ PpOk ss ps ∧ Pl a ∧ Pl b ∧ Pl c
theorem people_ok {n many : Nat} {tp : D} {ss : List Str} (hss : ss.length ≤ 3) (hnd : ss.Nodup) (hm : many ≤ 100) (hn : n < 2 ^ 42) (h : Tape n tp) : W (m__law_people [tp, tS ss, nD many]) fun r tp' => Tape (n + 400) tp' ∧ ∃ ps : List (List Str), r = .lst (ps.map tS) ∧ ps.length = many ∧ PpOk ss ps := by
  unfold m__law_people
  refine w_run1 rfl ?_
  unfold m__law_people_B
  refine w_seq ?_
  simp
  refine (sets_ok hss).mono fun r hr => ?_
  subst hr
  have hsl : (setsL ss).length ≤ 8 := by
    rw [setsL_len]
    exact Nat.le_trans (Nat.pow_le_pow_right (by decide) hss) (by decide)
  have hsl0 : 0 < (setsL ss).length := by rw [setsL_len]; exact Nat.pow_pos (by decide)
  refine w_seq ?_
  simp
  refine w_seq ?_
  refine w_for.mpr ?_
  simp
  refine ⟨by omega, ?_⟩
  refine wfor_inv (J_pp n ss many) ⟨tp, [], .un, .un, .un, rfl, h, rfl, fun p hp => (by cases hp), Pl_un, Pl_un, Pl_un⟩ (fun i d e hd ⟨tp, ps, a, b, c, he, ht, hpl, hps, ha, hb, hc⟩ => ?_) (fun e ⟨tp, ps, a, b, c, he, ht, hpl, hps, ha, hb, hc⟩ => ?_)
  · subst he
    have hi := (List.getElem?_eq_some_iff.mp hd).1
    rw [rngL_length] at hi
    rw [wo_gN]
    simp [setV_pl, ha]
    unfold m__law_people_1
    refine w_seq ?_
    simp
    refine (draw_ok (by omega) ht (by omega)).mono fun r tp2 ⟨ht2, k2, hk, hk20, hk21⟩ => ?_
    subst hk
    refine wo_ixE (enc := tS) hk20 (by omega) fun row hrow => ?_
    have hrow2 := setsL_row ss row (List.mem_of_getElem? hrow)
    have hrl := hrow2.length_le
    simp [setV_pl, hb]
    refine wlc_pureE (fun d => match d with | .int j => .str (row.getD j.toNat "") | _ => .non) ?_
    simp [ownAt_pl, hc]
    refine (order_ok (by omega) (by omega) ht2).mono fun r tp3 ⟨ht3, order, hr, hord⟩ => ?_
    subst hr
    have hol : order.length = row.length := by
      have := hord.length_eq
      simpa using this.symm
    have hmem : ∀ j ∈ order, j < row.length := fun j hj => by
      have := hord.mem_iff.mpr hj
      simpa using this
    simp [backE]
    refine ⟨by omega, fun j hj => ?_, ?_⟩
    · have hj' := hmem j hj
      refine wo_ixET (enc := D.str) (by omega) (by omega) fun s hs => ?_
      simp at hs
      simp [hs]
    · have e1 : order.map ((fun d => match d with | .int j => D.str (row.getD j.toNat "") | _ => .non) ∘ nD) = (order.map fun j => row.getD j "").map D.str := by
        rw [List.map_map]; rfl
      refine ⟨by omega, tp3, ps ++ [order.map fun j => row.getD j ""], .val d, .val (tS row), c, ?_, ht3.mono (by omega), by simp [hpl], ?_, Pl_val, Pl_val, hc⟩
      · simp [tS]
      · intro p hp
        rcases List.mem_append.mp hp with hp | hp
        · exact hps p hp
        · simp at hp
          subst hp
          have hpr : List.Perm (order.map fun j => row.getD j "") row := by
            have h1 := (hord.symm.map fun j => row.getD j "")
            have h2 : (List.range row.length).map (fun j => row.getD j "") = row := by
              apply List.ext_getElem
              · simp
              · intro k hk1 hk2
                simp at hk1
                simp [hk1]
            rw [h2] at h1; exact h1
          refine ⟨hpr.nodup_iff.mpr (hnd.sublist hrow2), fun s hs => hrow2.subset (hpr.mem_iff.mp hs), by rw [List.length_map]; omega⟩
  · subst he
    rw [rngL_length] at ht hpl
    simp
    exact ⟨ht.mono (by omega), ps, rfl, by omega, hps⟩
theorem crowd_ok {n : Nat} {tp : D} {many rare : Int} (h0 : 1 ≤ many) (h1 : many ≤ 40) (h2 : rare.natAbs < 1000) (hn : n < 2 ^ 45) (h : Tape n tp) : W (m__law_crowd [tp, .int many, .int rare]) fun r tp' => Tape (n + 5) tp' ∧ ∃ c : Nat, r = nD c ∧ c ≤ 40 := by
  unfold m__law_crowd
  refine w_run1 rfl ?_
  unfold m__law_crowd_B
  refine w_seq ?_
  simp
  refine (draw_ok (by omega) h (by omega)).mono fun r tp1 ⟨ht1, k1, hk, hk10, hk11⟩ => ?_
  subst hk
  simp
  refine ⟨fun _ => ?_, fun _ => ?_⟩
  · refine (draw_ok (by omega) ht1 (by decide)).mono fun r tp2 ⟨ht2, k2, hk, hk20, hk21⟩ => ?_
    subst hk
    simp
    refine (draw_ok (by omega) ht2 (by decide)).mono fun r tp3 ⟨ht3, k3, hk, hk30, hk31⟩ => ?_
    subst hk
    refine wo_ixAny hk30 (by simp; omega) fun d hd => ?_
    simp at hd
    rcases hd with rfl | rfl
    · exact ⟨ht3.mono (by omega), 40, rfl, by omega⟩
    · exact ⟨ht3.mono (by omega), (19 + k2).toNat, by simp [nD]; omega, by omega⟩
  · refine (draw_ok (by omega) ht1 (by omega)).mono fun r tp2 ⟨ht2, k2, hk, hk20, hk21⟩ => ?_
    subst hk
    exact ⟨ht2.mono (by omega), k2.toNat, by simp [nD]; omega, by omega⟩
theorem amount_ok {n : Nat} {tp : D} (hn : n < 2 ^ 45) (h : Tape n tp) : W (m__law_amount [tp]) fun r tp' => Tape (n + 5) tp' ∧ ∃ x : Int, r = .int x ∧ 1 ≤ x ∧ x < 2 ^ 200 := by
  unfold m__law_amount
  refine w_run1 rfl ?_
  unfold m__law_amount_B
  simp
  refine (draw_ok (by omega) h (by decide)).mono fun r tp1 ⟨ht1, k1, hk, hk10, hk11⟩ => ?_
  subst hk
  simp
  refine (draw_ok (by omega) ht1 (by decide)).mono fun r tp2 ⟨ht2, k2, hk, hk20, hk21⟩ => ?_
  subst hk
  refine wo_ixAny hk20 (by simp; omega) fun d hd => ?_
  simp at hd
  refine ⟨ht2.mono (by omega), ?_⟩
  rcases hd with rfl | rfl | rfl | rfl | rfl | rfl | rfl
  all_goals first | exact ⟨_, rfl, by decide, by decide⟩ | exact ⟨_, rfl, by omega, by omega⟩
end Mir
/-! Members, transactions. -/
namespace Mir
open PySem L2
section
variable {env : Env} {Q : D → Env → Prop} {R : List D → Env → Prop} {m : ME} {t : MT} {g : MG} {mi : MI} {vs : List Nat}
end
def Sx.mem (p : List Str) : Sx → Bool
  | .all => true
  | .none => false
  | .sec s => p.contains s
  | .not x => !x.mem p
  | .and x y => x.mem p && y.mem p
  | .or x y => x.mem p || y.mem p
theorem member_ok {p : List Str} : ∀ (x : Sx) (fuel : Nat), x.dep ≤ fuel → Wo (m__law_member fuel [x.d, tS p]) fun r => r = .bl (x.mem p) := by
  intro x
  induction x with
  | all =>
    intro fuel hf
    cases fuel with
    | zero => simp [Sx.dep] at hf
    | succ fuel =>
      unfold m__law_member
      refine w_run0 rfl ?_
      unfold m__law_member_B
      simp [w_seqI, Sx.d, Sx.mem, ofString_inj]
  | none =>
    intro fuel hf
    cases fuel with
    | zero => simp [Sx.dep] at hf
    | succ fuel =>
      unfold m__law_member
      refine w_run0 rfl ?_
      unfold m__law_member_B
      simp [w_seqI, Sx.d, Sx.mem, ofString_inj]
  | sec s =>
    intro fuel hf
    cases fuel with
    | zero => simp [Sx.dep] at hf
    | succ fuel =>
      unfold m__law_member
      refine w_run0 rfl ?_
      unfold m__law_member_B
      simp [w_seqI, Sx.d, Sx.mem, ofString_inj]
      rw [wo_inT]
      simp
  | not x ih =>
    intro fuel hf
    cases fuel with
    | zero => simp [Sx.dep] at hf
    | succ fuel =>
      simp [Sx.dep] at hf
      unfold m__law_member
      refine w_run0 rfl ?_
      unfold m__law_member_B
      simp [w_seqI, Sx.d, Sx.mem, ofString_inj]
      refine (ih fuel (by omega)).mono fun r hr => ?_
      subst hr
      simp
  | and x y ihx ihy =>
    intro fuel hf
    cases fuel with
    | zero => simp [Sx.dep] at hf
    | succ fuel =>
      simp [Sx.dep] at hf
      unfold m__law_member
      refine w_run0 rfl ?_
      unfold m__law_member_B
      simp [w_seqI, Sx.d, Sx.mem, ofString_inj]
      refine (ihx fuel (by omega)).mono fun r hr => ?_
      subst hr
      simp
      refine ⟨fun h1 => ?_, fun h1 => by simp [h1]⟩
      refine (ihy fuel (by omega)).mono fun r hr => ?_
      subst hr
      simp [h1]
  | or x y ihx ihy =>
    intro fuel hf
    cases fuel with
    | zero => simp [Sx.dep] at hf
    | succ fuel =>
      simp [Sx.dep] at hf
      unfold m__law_member
      refine w_run0 rfl ?_
      unfold m__law_member_B
      simp [w_seqI, Sx.d, Sx.mem, ofString_inj]
      refine (ihx fuel (by omega)).mono fun r hr => ?_
      subst hr
      simp
      refine ⟨fun h1 => by simp [h1], fun h1 => ?_⟩
      refine (ihy fuel (by omega)).mono fun r hr => ?_
      subst hr
      simp [h1]
abbrev lP (ps : List (List Str)) : D := .lst (ps.map tS)
abbrev lN (ks : List Nat) : D := .lst (ks.map nD)
def mems (x : Sx) (ps : List (List Str)) : List Nat := (List.range ps.length).filter fun k => x.mem (ps.getD k [])
theorem mems_mem {x : Sx} {ps : List (List Str)} {k : Nat} : k ∈ mems x ps ↔ k < ps.length ∧ x.mem (ps.getD k []) = true := by
  unfold mems
  rw [List.mem_filter, List.mem_range]
theorem mems_len {x : Sx} {ps : List (List Str)} : (mems x ps).length ≤ ps.length := by
  unfold mems
  refine Nat.le_trans (List.length_filter_le ..) ?_
  rw [List.length_range]; omega
theorem members_ok {x : Sx} {ps : List (List Str)} (hx : x.dep ≤ 40) (hp : ps.length ≤ 1000) : Wo (m__law_members [lP ps, x.d]) fun r => r = lN (mems x ps) := by
  unfold m__law_members
  refine w_run0 rfl ?_
  unfold m__law_members_B
  simp
  refine wlc_filtE (pNat fun k => x.mem (ps.getD k [])) id ?_
  simp [backE]
  rw [rngL0]
  refine ⟨by omega, by simp; omega, fun d hd => ?_, ?_⟩
  · obtain ⟨k, hk, rfl⟩ := List.mem_map.mp hd
    rw [List.mem_range] at hk
    try simp
    refine wo_ixE (enc := tS) (by omega) (by omega) fun p hp => ?_
    refine (member_ok x 40 hx).mono fun r hr => ?_
    subst hr
    simp at hp
    simp [pNat, hp]
  · rw [filt_nat]
    rfl
structure Dl where
  nm : Str
  a : Nat
  b : Nat
  x : Int
def Dl.d (d : Dl) : D := .tup [.str d.nm, nD d.a, nD d.b, .int d.x]
structure DlOk (ks : List Kin) (ps : List (List Str)) (d : Dl) : Prop where
  kin : ∃ k ∈ ks, k.nm = d.nm ∧ k.px.mem (ps.getD d.a []) = true ∧ k.py.mem (ps.getD d.b []) = true
  la : d.a < ps.length
  lb : d.b < ps.length
  ne : d.a ≠ d.b
  x1 : 1 ≤ d.x
  x2 : d.x < 2 ^ 200
theorem deal_ok {n : Nat} {tp : D} {ss ac : List Str} {ks : List Kin} {k : Kin} {ps : List (List Str)} (hk : k ∈ ks) (hok : k.ok ss ac) (hp : ps.length ≤ 1000) (hn : n < 2 ^ 44) (h : Tape n tp) : W (m__law_deal [tp, k.d, lP ps]) fun r tp' => Tape (n + 10) tp' ∧ (r = .non ∨ ∃ d : Dl, r = d.d ∧ DlOk ks ps d) := by
  have hd1 := hok.dpx
  have hd2 := hok.dpy
  unfold m__law_deal
  refine w_run1 rfl ?_
  unfold m__law_deal_B
  refine w_seq ?_
  simp [Kin.d]
  refine (members_ok (by omega) hp).mono fun r hr => ?_
  subst hr
  have hl1 := mems_len (x := k.px) (ps := ps)
  refine w_seq ?_
  simp
  refine ⟨fun _ => h.mono (by omega), fun hne => ?_⟩
  have hl0 : 0 < (mems k.px ps).length := by
    cases hm : mems k.px ps with
    | nil => exact absurd hm hne
    | cons _ _ => simp
  refine w_seq ?_
  simp
  refine (draw_ok (by omega) h (by omega)).mono fun r tp1 ⟨ht1, k1, hk1, hk10, hk11⟩ => ?_
  subst hk1
  refine wo_ixE (enc := nD) hk10 (by omega) fun pa hpa => ?_
  have hpa' := mems_mem.mp (List.mem_of_getElem? hpa)
  refine w_seq ?_
  simp
  refine wlc_filtE (pNat fun j => !decide (j = pa)) id ?_
  simp
  refine (members_ok (by omega) hp).mono fun r hr => ?_
  subst hr
  have hl2 := mems_len (x := k.py) (ps := ps)
  simp [backE]
  refine ⟨by omega, fun j _ => ?_, ?_⟩
  · simp [pNat]
    exact Int.natCast_inj
  · rw [filt_nat]
    obtain ⟨oth, hoth⟩ : ∃ oth, oth = (mems k.py ps).filter fun j => !decide (j = pa) := ⟨_, rfl⟩
    rw [← hoth]
    have hol : oth.length ≤ ps.length := by rw [hoth]; exact Nat.le_trans (List.length_filter_le ..) hl2
    refine w_seq ?_
    simp
    refine ⟨fun _ => ht1.mono (by omega), fun hne2 => ?_⟩
    have ho0 : 0 < oth.length := by
      cases hm : oth with
      | nil => exact absurd hm hne2
      | cons _ _ => simp
    refine (draw_ok (by omega) ht1 (by omega)).mono fun r tp2 ⟨ht2, k2, hk2, hk20, hk21⟩ => ?_
    subst hk2
    refine wo_ixE (enc := nD) hk20 (by omega) fun pb hpb => ?_
    have hpb0 := List.mem_of_getElem? hpb
    rw [hoth, List.mem_filter] at hpb0
    have hpb' := mems_mem.mp hpb0.1
    have hne3 : pb ≠ pa := by simpa using hpb0.2
    refine (amount_ok (by omega) ht2).mono fun r tp3 ⟨ht3, x, hx, hx1, hx2⟩ => ?_
    subst hx
    exact ⟨ht3.mono (by omega), ⟨k.nm, pa, pb, x⟩, rfl, ⟨k, hk, rfl, hpa'.2, hpb'.2⟩, hpa'.1, hpb'.1, hne3.symm, hx1, hx2⟩
def J_dl (n : Nat) (md : D) (ks : List Kin) (ps : List (List Str)) (many : Int) (i : Nat) (e : Env) : Prop := ∃ (tp : D) (ds : List Dl) (a b : Sl), e = [.own true tp, .val md, .val (lP ps), .val (.int many), .own false (.lst (ds.map Dl.d)), a, b] ∧ Tape (n + 12 * i) tp ∧ ds.length ≤ i ∧ (∀ d ∈ ds, DlOk ks ps d) ∧ Pl a ∧ Pl b
theorem deals_ok {n : Nat} {tp md m0 m1 m3 m4 : D} {ss ac : List Str} {ks : List Kin} {ps : List (List Str)} {many : Int} (hmd : md = .tup [m0, m1, .tup (ks.map Kin.d), m3, m4]) (hkl : ks.length ≤ 10) (hok : ∀ k ∈ ks, k.ok ss ac) (hp : ps.length ≤ 1000) (hm0 : 0 ≤ many) (hm : many ≤ 20) (hn : n < 2 ^ 43) (h : Tape n tp) :
    W (m__law_deals [tp, md, lP ps, .int many]) fun r tp' => Tape (n + 300) tp' ∧ ∃ ds : List Dl, r = .lst (ds.map Dl.d) ∧ ds.length ≤ 20 ∧ ∀ d ∈ ds, DlOk ks ps d := by
  subst hmd
  unfold m__law_deals
  refine w_run1 rfl ?_
  unfold m__law_deals_B
  refine w_seq ?_
  simp
  refine w_seq ?_
  refine w_for.mpr ?_
  simp
  refine ⟨by omega, wfor_inv (J_dl n (.tup [m0, m1, .tup (ks.map Kin.d), m3, m4]) ks ps many) ⟨tp, [], .un, .un, rfl, h, by simp, fun d hd => (by cases hd), Pl_un, Pl_un⟩ (fun i d e hd ⟨tp, ds, a, b, he, ht, hl, hds, ha, hb⟩ => ?_) (fun e ⟨tp, ds, a, b, he, ht, hl, hds, ha, hb⟩ => ?_)⟩
  · subst he
    have hi := (List.getElem?_eq_some_iff.mp hd).1
    rw [rngL_length] at hi
    rw [wo_gN]
    simp [setV_pl, ha]
    unfold m__law_deals_1
    simp
    refine ⟨fun hne => ?_, fun he0 => ⟨tp, ds, .val d, b, rfl, ht.mono (by omega), by omega, hds, Pl_val, hb⟩⟩
    have hk0 : 0 < ks.length := by
      cases hm : ks with
      | nil => exact absurd hm hne
      | cons _ _ => simp
    refine w_seq ?_
    simp
    refine (draw_ok (by omega) ht (by omega)).mono fun r tp1 ⟨ht1, k1, hk1, hk10, hk11⟩ => ?_
    subst hk1
    refine wo_ixET (enc := Kin.d) hk10 (by omega) fun k hk => ?_
    have hkm := List.mem_of_getElem? hk
    refine (deal_ok hkm (hok k hkm) hp (by omega) ht1).mono fun r tp2 ⟨ht2, hr⟩ => ?_
    simp [setV_pl, hb]
    rcases hr with rfl | ⟨d2, rfl, hd2⟩
    · simp
      exact ⟨tp2, ds, .val d, .val .non, rfl, ht2.mono (by omega), by omega, hds, Pl_val, Pl_val⟩
    · simp [Dl.d]
      refine ⟨by omega, tp2, ds ++ [d2], .val d, .val d2.d, by simp [Dl.d], ht2.mono (by omega), by simp; omega, fun x hx => ?_, Pl_val, Pl_val⟩
      rcases List.mem_append.mp hx with hx | hx
      · exact hds x hx
      · simp at hx; subst hx; exact hd2
  · subst he
    rw [rngL_length] at ht hl
    simp
    exact ⟨ht.mono (by omega), ds, rfl, by omega, hds⟩
end Mir
/-! Entries, dicts of rows, rows by posting. -/
namespace Mir
open PySem L2
theorem entS_small : ∀ {es : List En} {s : Str}, (∀ p ∈ es, p.2.natAbs < 2 ^ 20) → (entS es s).natAbs ≤ es.length * 2 ^ 20
  | [], _, _ => by simp [entS]
  | p :: es, s, h => by
    have h1 := h p (by simp)
    have h2 := entS_small (es := es) (s := s) fun q hq => h q (by simp [hq])
    rw [entS_cons, List.length_cons, Nat.succ_mul]
    split <;> omega
theorem EsOk.entL {ac : List Str} {es : List En} (h : EsOk ac es) (hl : ac.length ≤ 4) (s : Str) : (entS es s).natAbs < 2 ^ 30 := by
  have h1 := entS_small (s := s) h.small
  have h2 := h.len
  have h3 : es.length * 2 ^ 20 ≤ 4 * 2 ^ 20 := Nat.mul_le_mul_right _ (by omega)
  omega
/-! the kind of a name: the last one -/
def kofD : Option Kin → D
  | some k => k.d
  | none => .non
def J_ko (md : D) (ks : List Kin) (nm : Str) (i : Nat) (e : Env) : Prop := ∃ a : Sl, e = [.val md, .val (.str nm), .val (kofD (kof (ks.take i) nm)), a] ∧ Pl a
theorem kind_of_ok {md m0 m1 m3 m4 : D} {ks : List Kin} {nm : Str} (hmd : md = .tup [m0, m1, .tup (ks.map Kin.d), m3, m4]) : Wo (m__law_kind_of [md, .str nm]) fun r => r = kofD (kof ks nm) := by
  unfold m__law_kind_of
  refine w_run0 rfl ?_
  unfold m__law_kind_of_B
  refine w_seq ?_
  simp
  refine w_seq ?_
  refine w_for.mpr ?_
  subst hmd
  simp
  refine wfor_inv (J_ko (.tup [m0, m1, .tup (ks.map Kin.d), m3, m4]) ks nm) ⟨.un, rfl, Pl_un⟩ (fun i d e hd ⟨a, he, ha⟩ => ?_) (fun e ⟨a, he, ha⟩ => ?_)
  · subst he
    rw [List.getElem?_map] at hd
    obtain ⟨k, hk, rfl⟩ := Option.map_eq_some_iff.mp hd
    rw [wo_gN]
    simp [setV_pl, ha]
    unfold m__law_kind_of_1
    have e1 : J_ko (.tup [m0, m1, .tup (ks.map Kin.d), m3, m4]) ks nm (i + 1) = fun e => ∃ a : Sl, e = [.val (.tup [m0, m1, .tup (ks.map Kin.d), m3, m4]), .val (.str nm), .val (kofD (if k.nm = nm then some k else kof (ks.take i) nm)), a] ∧ Pl a := by
      funext e
      unfold J_ko
      rw [take_snoc hk, kof_snoc]
    rw [e1]
    simp [Kin.d]
    exact ⟨fun h1 => ⟨.val k.d, by simp [h1, kofD, Kin.d], Pl_val⟩, fun h1 => ⟨.val k.d, by simp [h1, Kin.d], Pl_val⟩⟩
  · subst he
    rw [List.length_map, List.take_length]
    simp
/-! the table -/
def gvE (ks : List Kin) (nm : Str) : List En := match kof ks nm with | some k => k.giv | none => []
def tkE (ks : List Kin) (nm : Str) : List En := match kof ks nm with | some k => k.tak | none => []
def ctr (ks : List Kin) (d : Dl) (p : Nat) (s : Str) : Int := (if p = d.a then d.x * entS (gvE ks d.nm) s else 0) + (if p = d.b then d.x * entS (tkE ks d.nm) s else 0)
def bal (ks : List Kin) (ds : List Dl) (p : Nat) (s : Str) : Int := (ds.map fun d => ctr ks d p s).sum
theorem bal_nil (ks : List Kin) (p : Nat) (s : Str) : bal ks [] p s = 0 := rfl
theorem bal_app (ks : List Kin) (ds es : List Dl) (p : Nat) (s : Str) : bal ks (ds ++ es) p s = bal ks ds p s + bal ks es p s := by
  unfold bal
  rw [List.map_append, List.sum_append]
theorem bal_snoc (ks : List Kin) (ds : List Dl) (d : Dl) (p : Nat) (s : Str) : bal ks (ds ++ [d]) p s = bal ks ds p s + ctr ks d p s := by
  rw [bal_app]
  simp [bal]
def tabL (ac : List Str) (n : Nat) (F : Nat → Str → Int) : List (List D) := (List.range n).map fun p => rI ac (F p)
theorem tabL_len {ac : List Str} {n : Nat} {F : Nat → Str → Int} : (tabL ac n F).length = n := by simp [tabL]
theorem tabL_get {ac : List Str} {n a : Nat} {F : Nat → Str → Int} (h : a < n) : (tabL ac n F)[a]? = some (rI ac (F a)) := by simp [tabL, h]
theorem tabL_set {ac : List Str} {n a : Nat} {F : Nat → Str → Int} {h : Str → Int} (ha : a < n) : (tabL ac n F).set a (rI ac h) = tabL ac n fun p s => if p = a then h s else F p s := by
  apply List.ext_getElem?
  intro i
  by_cases e : a = i
  · subst e
    rw [List.getElem?_set_self (by rw [tabL_len]; exact ha), tabL_get ha]
    congr 1
    unfold rI
    congr 1
    apply List.map_congr_left
    intro s _
    simp
  · rw [List.getElem?_set_ne e]
    by_cases hi : i < n
    · rw [tabL_get hi, tabL_get hi]
      congr 1
      unfold rI
      congr 1
      apply List.map_congr_left
      intro s _
      rw [if_neg fun z => e z.symm]
    · rw [List.getElem?_eq_none (by rw [tabL_len]; omega), List.getElem?_eq_none (by rw [tabL_len]; omega)]
theorem tabL_congr {ac : List Str} {n : Nat} {F G : Nat → Str → Int} (h : ∀ p s, p < n → s ∈ ac → F p s = G p s) : tabL ac n F = tabL ac n G := by
  unfold tabL
  apply List.map_congr_left
  intro p hp
  rw [List.mem_range] at hp
  unfold rI
  congr 1
  apply List.map_congr_left
  intro s hs
  exact h p s hp hs
theorem wo_idxT {R : D → Prop} {ac : List Str} {s : Str} {j : Nat} (h : ac.findIdx? (· == s) = some j) : Wo (idxS (.tup (ac.map D.str)) (.str s)) R ↔ R (.int (j : Nat)) := by
  have : idxS (.tup (ac.map D.str)) (.str s) = some (.int (j : Nat)) := by
    unfold idxS
    simp [strsOf_map, h]
  rw [this, Wo_some]
theorem idx_some {ac : List Str} {s : Str} (h : s ∈ ac) : ∃ j, ac.findIdx? (· == s) = some j ∧ ac[j]? = some s := by
  cases e : ac.findIdx? (· == s) with
  | none =>
    have := List.findIdx?_eq_none_iff.mp e s h
    simp at this
  | some j => exact ⟨j, rfl, (find_facts e).1⟩
end Mir
/-! Balances by the program. -/
namespace Mir
open PySem L2
def eRow (ac : List Str) (k : Kin) : D := .tup [lI (ac.map (entS k.giv)), lI (ac.map (entS k.tak))]
def fEn (es : List En) : D → D
  | .str s => .int (entS es s)
  | _ => .non
theorem ent_rows {ac : List Str} {es : List En} : (ac.map D.str).map (fEn es) = rI ac (entS es) := by
  simp [fEn, rI, Function.comp_def]
def J_er (md : D) (ac : List Str) (ks : List Kin) (i : Nat) (e : Env) : Prop := ∃ (a b c : Sl) (kk : List Key) (vv : List D), e = [.val md, .own false (.dk kk vv), a, b, c] ∧ kk.length = vv.length ∧ kk.length ≤ i ∧ (∀ nm, lookD kk vv (.inr nm) = (kof (ks.take i) nm).map (eRow ac)) ∧ Pl a ∧ Pl b ∧ Pl c
theorem entry_rows_ok {m0 m3 m4 : D} {ss ac : List Str} {ks : List Kin} (hac : ac.length ≤ 4) (hkl : ks.length ≤ 20) (hok : ∀ k ∈ ks, k.ok ss ac) : Wo (m_entry_rows [.tup [m0, tS ac, .tup (ks.map Kin.d), m3, m4]]) fun r => ∃ (kk : List Key) (vv : List D), r = .dk kk vv ∧ ∀ nm, lookD kk vv (.inr nm) = (kof ks nm).map (eRow ac) := by
  unfold m_entry_rows
  refine w_run0 rfl ?_
  unfold m_entry_rows_B
  refine w_seq ?_
  simp
  refine w_seq ?_
  refine w_for.mpr ?_
  simp
  refine wfor_inv (J_er (.tup [m0, tS ac, .tup (ks.map Kin.d), m3, m4]) ac ks) ⟨.un, .un, .un, [], [], rfl, rfl, by simp, fun nm => rfl, by simp⟩ (fun i d e hd ⟨a, b, c, kk, vv, he, hl, hi', hlk, ha, hb, hc⟩ => ?_) (fun e ⟨a, b, c, kk, vv, he, hl, hi', hlk, ha, hb, hc⟩ => ?_)
  · subst he
    have hi := (List.getElem?_eq_some_iff.mp hd).1
    rw [List.length_map] at hi
    rw [List.getElem?_map] at hd
    obtain ⟨k, hk, rfl⟩ := Option.map_eq_some_iff.mp hd
    have hkk := hok k (List.mem_of_getElem? hk)
    rw [wo_gN]
    simp [setV_pl, ha]
    unfold m_entry_rows_1
    refine w_seq ?_
    simp
    refine wlc_pureE (fEn k.giv) ?_
    simp [backE, ownAt_pl, hc, Kin.d]
    refine ⟨by omega, fun s _ => ?_, ?_⟩
    · try simp [setV_pl, hc]
      refine (entry_of_ok hkk.g.nd).mono fun r hr => ?_
      subst hr
      simp [fEn]
    · try simp [setV_pl, hb]
      refine wlc_pureE (fEn k.tak) ?_
      simp [backE, ownAt_pl, hc]
      refine ⟨by omega, fun s _ => ?_, ?_⟩
      · rw [ixt4]
        refine (entry_of_ok hkk.t.nd).mono fun r hr => ?_
        subst hr
        simp [fEn]
      · rw [wo_setFD (by omega)]
        obtain ⟨kk', vv', e1, e2, e3, e4⟩ := put_look (k := .inr k.nm) (v := eRow ac k) hl
        have er : D.tup [D.lst (List.map (fEn k.giv ∘ D.str) ac), D.lst (List.map (fEn k.tak ∘ D.str) ac)] = eRow ac k := by
          simp [eRow, fEn, lI, Function.comp_def]
        rw [er, e1]
        try simp
        refine ⟨.val k.d, .val (.lst (List.map (fEn k.giv ∘ D.str) ac)), c, kk', vv', by simp [Kin.d], e2, by omega, fun nm => ?_, Pl_val, Pl_val, hc⟩
        rw [e4, hlk, take_snoc hk, kof_snoc]
        by_cases z : k.nm = nm
        · subst z; simp
        · have z' : ¬ (Sum.inr nm : Key) = .inr k.nm := fun e => z (by injection e with e; exact e.symm)
          rw [if_neg z', if_neg z]
  · subst he
    rw [List.length_map, List.take_length] at hlk
    simp
    exact ⟨kk, vv, ⟨rfl, rfl⟩, hlk⟩
def fAd (x : Int) : D → D
  | .tup [.int a, .int b] => .int (a + x * b)
  | _ => .non
theorem added_ok {ac : List Str} {f g : Str → Int} {x : Int} (hl : ac.length ≤ 1000) (hx : x.natAbs < 2 ^ 300) (hg : ∀ s ∈ ac, (g s).natAbs < 2 ^ 64) : Wo (m_added [.lst (rI ac f), .int x, .lst (rI ac g)]) fun r => r = .lst (rI ac fun s => f s + x * g s) := by
  unfold m_added
  refine w_run0 rfl ?_
  unfold m_added_B
  simp
  refine wlc_pureE (fAd x) ?_
  have hz : zipL (rI ac f) (rI ac g) = ac.map fun s => .tup [.int (f s), .int (g s)] := by
    unfold rI
    rw [List.map_map, List.map_map]
    exact zip_rows ac
  simp [backE]
  have hz' : zipL (List.map (D.int ∘ f) ac) (List.map (D.int ∘ g) ac) = ac.map fun s => .tup [.int (f s), .int (g s)] := zip_rows ac
  first | rw [hz'] | rw [hz]
  refine ⟨by rw [List.length_map]; omega, fun d hd => ?_, ?_⟩
  · obtain ⟨s, hs, rfl⟩ := List.mem_map.mp hd
    have := natlog hx
    have := natlog (hg s hs)
    simp [fAd]
    omega
  · simp [fAd, rI, Function.comp_def]
end Mir
/-! balances, _law_posted. -/
namespace Mir
open PySem L2
structure DlG (ks : List Kin) (n : Nat) (d : Dl) : Prop where
  kin : ∃ k ∈ ks, k.nm = d.nm
  la : d.a < n
  lb : d.b < n
  sm : d.x.natAbs < 2 ^ 300
theorem DlOk.g {ks : List Kin} {ps : List (List Str)} {d : Dl} (h : DlOk ks ps d) : DlG ks ps.length d := by
  obtain ⟨k, hk, hn, _⟩ := h.kin
  refine ⟨⟨k, hk, hn⟩, h.la, h.lb, ?_⟩
  have h1 := h.x1
  have h2 := h.x2
  have h3 : d.x.natAbs < 2 ^ 200 := by
    have : (d.x.natAbs : Int) < 2 ^ 200 := by rw [Int.natAbs_of_nonneg (by omega)]; exact h2
    have e : ((2 ^ 200 : Nat) : Int) = 2 ^ 200 := by norm_cast
    rw [← e] at this
    exact Int.ofNat_lt.mp this
  exact Nat.lt_trans h3 (Nat.pow_lt_pow_right (by decide) (by decide))
theorem lst_set {L : List (List D)} {i : Nat} {l : List D} : (L.map D.lst).set i (.lst l) = (L.set i l).map D.lst := by rw [List.map_set]
theorem tab0 {ac : List Str} {n : Nat} : tabL ac n (bal ks []) = List.replicate n (List.replicate ac.length (.int 0)) := by
  unfold tabL rI
  have : ∀ p, (ac.map (bal ks [] p)).map D.int = List.replicate ac.length (.int 0) := fun p => by
    rw [List.map_map]
    show ac.map (fun _ => D.int 0) = _
    rw [List.map_const']
  simp only [this]
  rw [List.map_const', List.length_range]
theorem step_bal {ks : List Kin} {ds : List Dl} {d : Dl} {ac : List Str} {n : Nat} : tabL ac n (fun p s => if p = d.b then (if d.b = d.a then bal ks ds d.a s + d.x * entS (gvE ks d.nm) s else bal ks ds d.b s) + d.x * entS (tkE ks d.nm) s else if p = d.a then bal ks ds d.a s + d.x * entS (gvE ks d.nm) s else bal ks ds p s) = tabL ac n (bal ks (ds ++ [d])) := by
  apply tabL_congr
  intro p s _ _
  rw [bal_snoc]
  unfold ctr
  by_cases h1 : p = d.b
  · subst h1
    by_cases h2 : d.b = d.a
    · rw [← h2]; simp; omega
    · simp [h2]
  · by_cases h2 : p = d.a
    · subst h2
      simp [h1]
    · simp [h1, h2]
def J_ba (md lg er : D) (ks : List Kin) (ac : List Str) (n : Nat) (ds : List Dl) (i : Nat) (e : Env) : Prop := ∃ (a b c d f g : Sl), e = [.val md, .val lg, .val er, .own false (.lst ((tabL ac n (bal ks (ds.take i))).map D.lst)), a, b, c, d, f, g] ∧ Pl a ∧ Pl b ∧ Pl c ∧ Pl d ∧ Pl f ∧ Pl g
theorem balances_ok {m0 m3 m4 : D} {ss ac : List Str} {ks : List Kin} {pp : List D} {ds : List Dl} (hac : ac.length ≤ 4) (hkl : ks.length ≤ 20) (hok : ∀ k ∈ ks, k.ok ss ac) (hp : pp.length ≤ 1000) (hdl : ds.length ≤ 1000) (hd : ∀ d ∈ ds, DlG ks pp.length d) :
    Wo (m_balances [.tup [m0, tS ac, .tup (ks.map Kin.d), m3, m4], .tup [.tup pp, .tup (ds.map Dl.d)]]) fun r => r = .tup ((tabL ac pp.length (bal ks ds)).map D.tup) := by
  unfold m_balances
  refine w_run0 rfl ?_
  unfold m_balances_B
  refine w_seq ?_
  simp
  refine (entry_rows_ok hac hkl hok).mono fun er ⟨kk, vv, her, hlk⟩ => ?_
  subst her
  refine w_seq ?_
  simp
  refine wlc_pureE (fun _ => .lst (List.replicate ac.length (.int 0))) ?_
  simp [backE]
  refine ⟨by omega, fun d _ => by first | omega | (rw [wo_mul1 (by omega)]), ?_⟩
  have e0 : pp.map (fun _ => D.lst (List.replicate ac.length (.int 0))) = (tabL ac pp.length (bal ks [])).map D.lst := by
    rw [tab0, List.map_const', List.map_replicate]
  rw [e0]
  refine w_seq ?_
  refine w_for.mpr ?_
  simp
  refine wfor_inv (J_ba (.tup [m0, tS ac, .tup (ks.map Kin.d), m3, m4]) (.tup [.tup pp, .tup (ds.map Dl.d)]) (.dk kk vv) ks ac pp.length ds) ⟨.un, .un, .un, .un, .un, .un, rfl, by simp⟩ (fun i d0 e hd0 ⟨a, b, c, d', f, g, he, ha, hb, hc, hd', hf, hg⟩ => ?_) (fun e ⟨a, b, c, d', f, g, he, ha, hb, hc, hd', hf, hg⟩ => ?_)
  · subst he
    rw [List.getElem?_map] at hd0
    obtain ⟨d, hdi, rfl⟩ := Option.map_eq_some_iff.mp hd0
    have hG := hd d (List.mem_of_getElem? hdi)
    obtain ⟨k, hk, hkf, hkn⟩ := kof_some hG.kin
    have hkk := hok k hk
    have hgv : gvE ks d.nm = k.giv := by unfold gvE; rw [hkf]
    have htk : tkE ks d.nm = k.tak := by unfold tkE; rw [hkf]
    have hrow : lookD kk vv (.inr d.nm) = some (eRow ac k) := by rw [hlk, hkf]; rfl
    have hstep := step_bal (ks := ks) (ds := ds.take i) (d := d) (ac := ac) (n := pp.length)
    rw [← take_snoc hdi, hgv, htk] at hstep
    obtain ⟨F, hF⟩ : ∃ F, F = bal ks (ds.take i) := ⟨_, rfl⟩
    rw [← hF] at hstep
    have hJ : J_ba (.tup [m0, tS ac, .tup (ks.map Kin.d), m3, m4]) (.tup [.tup pp, .tup (ds.map Dl.d)]) (.dk kk vv) ks ac pp.length ds (i + 1) [.val (.tup [m0, tS ac, .tup (ks.map Kin.d), m3, m4]), .val (.tup [.tup pp, .tup (ds.map Dl.d)]), .val (.dk kk vv), .own false (.lst ((tabL ac pp.length (fun p s => if p = d.b then (if d.b = d.a then F d.a s + d.x * entS k.giv s else F d.b s) + d.x * entS k.tak s else if p = d.a then F d.a s + d.x * entS k.giv s else F p s)).map D.lst)), a, .val (.str d.nm), .val (nD d.a), .val (nD d.b), .val (.int d.x), g] := by
      refine ⟨a, .val (.str d.nm), .val (nD d.a), .val (nD d.b), .val (.int d.x), g, ?_, ha, Pl_val, Pl_val, Pl_val, Pl_val, hg⟩
      rw [hstep]
    rw [← hF]
    simp [Dl.d, setV_pl, hb, hc, hd', hf]
    unfold m_balances_1
    refine w_seq ?_
    simp
    have hla := hG.la
    have hlb := hG.lb
    refine (wo_ixL (by omega) (d := .lst (rI ac (F d.a))) (by rw [List.getElem?_map, Int.toNat_natCast, tabL_get hla]; rfl)).mpr ?_
    rw [wo_ixDk hrow]
    unfold eRow
    rw [ix0]
    refine (added_ok (ac := ac) (f := F d.a) (g := entS k.giv) (by omega) hG.sm (fun s _ => Nat.lt_trans (hkk.g.entL hac s) (by decide))).mono fun r hr => ?_
    subst hr
    refine (wo_set (j := d.a) (by rw [ixN_pos (by omega) (by rw [List.length_map, tabL_len]; omega)]; simp)).mpr ?_
    rw [lst_set, tabL_set hla]
    refine (wo_ixL (by omega) (d := .lst (rI ac (fun s => if d.b = d.a then F d.a s + d.x * entS k.giv s else F d.b s))) (by rw [List.getElem?_map, Int.toNat_natCast, tabL_get hlb]; rfl)).mpr ?_
    rw [wo_ixDk hrow]
    unfold eRow
    rw [ix1]
    refine (added_ok (ac := ac) (f := fun s => if d.b = d.a then F d.a s + d.x * entS k.giv s else F d.b s) (g := entS k.tak) (by omega) hG.sm (fun s _ => Nat.lt_trans (hkk.t.entL hac s) (by decide))).mono fun r hr => ?_
    subst hr
    refine (wo_set (j := d.b) (by rw [ixN_pos (by omega) (by rw [List.length_map, tabL_len]; omega)]; simp)).mpr ?_
    rw [lst_set, tabL_set hlb]
    exact hJ
  · subst he
    rw [List.length_map, List.take_length]
    simp
    refine wlc_pureE (fun d => match d with | .lst l => .tup l | _ => .non) ?_
    simp [backE, ownAt_pl, setV_pl, hg, tabL_len]
    omega
end Mir
namespace Mir
open PySem L2
def J_pe (md pp dd kd : D) (a4 : Sl) (d : Dl) (ac : List Str) (n a : Nat) (F : Nat → Str → Int) (es : List En) (i : Nat) (z : ZS) : Prop := ∃ (a7 a9 : Sl) (al : Option Nat), z = ([.val md, .val pp, .val dd, .un, a4, .val d.d, .val kd, a7, .un, a9], tabL ac n (fun p s => if p = a then F p s + d.x * entS (es.take i) s else F p s), al)
theorem ent_loop {m0 m2 m3 m4 pp dd kd : D} {a4 a7 a9 : Sl} {d : Dl} {ac : List Str} {n a : Nat} {F : Nat → Str → Int} {es : List En} {al : Option Nat} {q : Int} {Q : ZS → Prop} (hac : ac.length ≤ 4) (hn : ac.Nodup) (ha : a < n) (hes : EsOk ac es) (hx : d.x.natAbs < 2 ^ 300)
    (hq : Wo (ixD d.d (.int q)) fun y => y = nD a)
    (h : ∀ a7' a9' al', Q ([.val (.tup [m0, tS ac, m2, m3, m4]), .val pp, .val dd, .un, a4, .val d.d, .val kd, a7', .un, a9'], tabL ac n (fun p s => if p = a then F p s + d.x * entS es s else F p s), al')) :
    Wo (zForL 7 (zSeq (zRow (mOp ixD (.e (mVar 5)) (.e (mC (.int q)))))
      (zSeq (zAsg (mIdx (tupOnly (mOp ixD (.e (mVar 0)) (.e (mC (.int 1))))) (.e (mOp ixD (.e (mVar 7)) (.e (mC (.int 0)))))) 9)
      (zSet (mVar 9) (mOp mulD (.e (mOp ixD (.e (mVar 5)) (.e (mC (.int 3))))) (.e (mOp ixD (.e (mVar 7)) (.e (mC (.int 1)))))))))
      (es.map enD) ([.val (.tup [m0, tS ac, m2, m3, m4]), .val pp, .val dd, .un, a4, .val d.d, .val kd, a7, .un, a9], tabL ac n F, al)) Q := by
  refine wz_inv (J_pe (.tup [m0, tS ac, m2, m3, m4]) pp dd kd a4 d ac n a F es) ⟨a7, a9, al, ?_⟩ (fun i y z hy ⟨b7, b9, bl, hz⟩ => ?_) (fun z ⟨b7, b9, bl, hz⟩ => ?_)
  · congr 2
    apply tabL_congr
    intro p s _ _
    simp [entS]
  · subst hz
    rw [List.getElem?_map] at hy
    obtain ⟨e, he, rfl⟩ := Option.map_eq_some_iff.mp hy
    have hem := List.mem_of_getElem? he
    obtain ⟨j, hj1, hj2⟩ := idx_some (hes.mem e hem)
    obtain ⟨G, hG⟩ : ∃ G : Nat → Str → Int, G = fun p s => if p = a then F p s + d.x * entS (es.take i) s else F p s := ⟨_, rfl⟩
    rw [← hG]
    simp
    refine hq.mono fun r hr => ?_
    subst hr
    simp
    refine ⟨by rw [tabL_len]; exact ha, ?_⟩
    simp [enD]
    rw [show tupD (tS ac) = some (ac.map D.str) from rfl, Wo_some, wo_idxT hj1]
    refine wz_set (l := rI ac (G a)) (k := (j : Int)) (d0 := .int (G a e.1)) (d1 := .int (d.x * e.2)) (d2 := .int (G a e.1 + d.x * e.2)) (tabL_get ha) (by simp) (by omega) ?_ ?_ rfl ?_
    · rw [Int.toNat_natCast]
      unfold rI
      rw [List.getElem?_map, List.getElem?_map, hj2]
      rfl
    · simp [Dl.d]
      have := natlog hx
      have := natlog (Nat.lt_trans (hes.small e hem) (show 2 ^ 20 < 2 ^ 64 by decide))
      omega
    · rw [Int.toNat_natCast, row_set hn hj2, tabL_set ha]
      refine ⟨.val (enD e), .val (nD j), some a, ?_⟩
      simp [enD]
      apply tabL_congr
      intro p s _ _
      rw [take_snoc he, entS_snoc, hG]
      by_cases h1 : p = a
      · subst h1
        by_cases h2 : s = e.1
        · subst h2
          simp [Int.mul_add]
          omega
        · have h2' : ¬ e.1 = s := fun z => h2 z.symm
          simp [h2, h2']
      · simp [h1]
  · subst hz
    rw [List.length_map, List.take_length]
    exact h b7 b9 bl
def J_po (md pp dd : D) (ks : List Kin) (ac : List Str) (n : Nat) (ds : List Dl) (i : Nat) (z : ZS) : Prop := ∃ (a4 a5 a6 a7 a9 : Sl) (al : Option Nat), z = ([.val md, .val pp, .val dd, .un, a4, a5, a6, a7, .un, a9], tabL ac n (bal ks (ds.take i)), al)
theorem posted_ok {m0 m3 m4 : D} {ss ac : List Str} {ks : List Kin} {pp : List D} {ds : List Dl} (hac : ac.length ≤ 4) (hn : ac.Nodup) (hok : ∀ k ∈ ks, k.ok ss ac) (hp : pp.length ≤ 1000) (hd : ∀ d ∈ ds, DlG ks pp.length d) :
    Wo (m__law_posted [.tup [m0, tS ac, .tup (ks.map Kin.d), m3, m4], .lst pp, .lst (ds.map Dl.d)]) fun r => r = .lst ((tabL ac pp.length (bal ks ds)).map D.lst) := by
  unfold m__law_posted
  refine w_run0 rfl ?_
  unfold m__law_posted_B
  refine w_nest (l := List.replicate ac.length (.int 0)) ?_
  simp
  refine ⟨⟨rfl, by omega, rfl, rfl⟩, by omega, ?_⟩
  rw [← tab0 (ks := ks)]
  rw [wz_for]
  simp
  refine wz_inv (J_po (.tup [m0, tS ac, .tup (ks.map Kin.d), m3, m4]) (.lst pp) (.lst (ds.map Dl.d)) ks ac pp.length ds) ⟨.un, .un, .un, .un, .un, none, rfl⟩ (fun i y z hy ⟨a4, a5, a6, a7, a9, al, hz⟩ => ?_) (fun z ⟨a4, a5, a6, a7, a9, al, hz⟩ => ?_)
  · subst hz
    rw [List.getElem?_map] at hy
    obtain ⟨d, hdi, rfl⟩ := Option.map_eq_some_iff.mp hy
    have hG := hd d (List.mem_of_getElem? hdi)
    obtain ⟨k, hk, hkf, hkn⟩ := kof_some hG.kin
    have hkk := hok k hk
    have hgv : gvE ks d.nm = k.giv := by unfold gvE; rw [hkf]
    have htk : tkE ks d.nm = k.tak := by unfold tkE; rw [hkf]
    simp
    have hx0 : ∀ {R : D → Prop}, Wo (ixD d.d (.int 0)) R ↔ R (.str d.nm) := fun {R} => by unfold Dl.d; rw [ix0]
    rw [hx0]
    refine (kind_of_ok rfl).mono fun r hr => ?_
    rw [hkf] at hr
    have hr' : r = k.d := hr
    subst hr'
    rw [wz_for]
    simp
    have hx2 : ∀ {R : D → Prop}, Wo (ixD k.d (.int 2)) R ↔ R (.tup (k.giv.map enD)) := fun {R} => by unfold Kin.d; rw [ix2]
    have hx4 : ∀ {R : D → Prop}, Wo (ixD k.d (.int 4)) R ↔ R (.tup (k.tak.map enD)) := fun {R} => by unfold Kin.d; rw [ixt4]
    rw [hx2]
    simp
    refine ent_loop (a := d.a) hac hn hG.la hkk.g hG.sm (by unfold Dl.d; rw [ix1]) fun b7 b9 bl => ?_
    rw [wz_for]
    simp
    rw [hx4]
    simp
    refine ent_loop (a := d.b) hac hn hG.lb hkk.t hG.sm (by unfold Dl.d; rw [ix2]) fun c7 c9 cl => ?_
    refine ⟨a4, .val d.d, .val k.d, c7, c9, cl, ?_⟩
    congr 2
    apply tabL_congr
    intro p s _ _
    rw [take_snoc hdi, bal_snoc]
    unfold ctr
    rw [hgv, htk]
    by_cases h1 : p = d.b
    · subst h1
      by_cases h2 : d.b = d.a
      · rw [if_pos rfl, if_pos h2, if_pos h2, if_pos rfl]; omega
      · rw [if_pos rfl, if_neg h2, if_neg h2, if_pos rfl]; omega
    · by_cases h2 : p = d.a
      · rw [if_neg h1, if_pos h2, if_pos h2, if_neg h1]; omega
      · rw [if_neg h1, if_neg h2, if_neg h2, if_neg h1]; omega
  · subst hz
    rw [List.length_map, List.take_length]
    try simp
end Mir
/-! The profile of a participant; the sets in their order. -/
namespace Mir
open PySem L2
/-- the profile of names -/
def pfI (ss p : List Str) : Nat → Nat
  | 0 => 0
  | i + 1 => pfI ss p i + if p.contains (ss.getD i "") then 2 ^ i else 0
abbrev pfN (ss p : List Str) : Nat := pfI ss p ss.length
theorem pfI_lt (ss p : List Str) : ∀ i, pfI ss p i < 2 ^ i
  | 0 => by simp [pfI]
  | i + 1 => by
    have := pfI_lt ss p i
    unfold pfI
    rw [Nat.pow_succ]
    split <;> omega
theorem pfI_bit (ss p : List Str) : ∀ (i j : Nat), j < i → (pfI ss p i).testBit j = p.contains (ss.getD j "")
  | 0, j, h => by omega
  | i + 1, j, h => by
    have hl := pfI_lt ss p i
    unfold pfI
    by_cases e : j = i
    · subst e
      split
      · rename_i hc
        rw [Nat.add_comm, Nat.testBit_two_pow_add_eq, Nat.testBit_lt_two_pow hl]
        simp only [hc]; rfl
      · rename_i hc
        rw [Nat.add_zero, Nat.testBit_lt_two_pow hl]
        simpa using hc
    · split
      · rw [Nat.add_comm, Nat.testBit_two_pow_add_gt (by omega), pfI_bit ss p i j (by omega)]
      · rw [Nat.add_zero, pfI_bit ss p i j (by omega)]
theorem ix_lt {ss : List Str} {s : Str} (h : s ∈ ss) : ix ss s < ss.length := (List.getElem?_eq_some_iff.mp (ix_facts h).2).1
theorem bl_pf {ss p : List Str} : ∀ (x : Sx), x.ok ss → bl ss (pfN ss p) x = x.mem p
  | .all, _ => rfl
  | .none, _ => rfl
  | .sec s, h => by
    show (pfN ss p).testBit (ix ss s) = p.contains s
    rw [pfI_bit ss p _ _ (ix_lt h)]
    have := (ix_facts (show s ∈ ss from h)).2
    rw [List.getD_eq_getElem?_getD, this]; rfl
  | .not x, h => by
    have := bl_pf (p := p) x h
    unfold bl at this
    simp only [bl, Sx.ev, Sx.mem, this]
  | .and x y, h => by
    have h1 := bl_pf (p := p) x h.1
    have h2 := bl_pf (p := p) y h.2
    unfold bl at h1 h2
    simp only [bl, Sx.ev, Sx.mem, h1, h2]
  | .or x y, h => by
    have h1 := bl_pf (p := p) x h.1
    have h2 := bl_pf (p := p) y h.2
    unfold bl at h1 h2
    simp only [bl, Sx.ev, Sx.mem, h1, h2]
theorem wo_shl1 {R : D → Prop} {i : Nat} (h : i ≤ 100) : Wo (shlD (.int 1) (.int (i : Nat))) R ↔ R (.int ((2 ^ i : Nat) : Int)) := by
  unfold shlD
  rw [wo_int2]
  have e : (1 : Int) * 2 ^ ((i : Nat) : Int).toNat = ((2 ^ i : Nat) : Int) := by simp
  simp
  omega
section
variable {ss : List Str} {m1 m2 m3 m4 : D}
def J_pf (m : D) (ss p : List Str) (i : Nat) (e : Env) : Prop := ∃ a b : Sl, e = [.val m, .val (tS p), .val (nD (pfI ss p i)), a, b] ∧ Pl a ∧ Pl b
theorem profile_of_ok {p : List Str} (hss : ss.length ≤ 3) : Wo (m_profile_of [md ss m1 m2 m3 m4, tS p]) fun r => r = nD (pfN ss p) := by
  unfold m_profile_of
  refine w_run0 rfl ?_
  unfold m_profile_of_B
  refine w_seq ?_
  simp
  refine w_seq ?_
  refine w_for.mpr ?_
  simp
  refine wfor_inv (J_pf (md ss m1 m2 m3 m4) ss p) ⟨.un, .un, rfl, Pl_un, Pl_un⟩ (fun i d e hd ⟨a, b, he, ha, hb⟩ => ?_) (fun e ⟨a, b, he, ha, hb⟩ => ?_)
  · subst he
    obtain ⟨x, hx, rfl⟩ := enumL_get hd
    rw [List.getElem?_map] at hx
    obtain ⟨s, hs, rfl⟩ := Option.map_eq_some_iff.mp hx
    have hi := (List.getElem?_eq_some_iff.mp hs).1
    simp [setV_pl, ha, hb]
    unfold m_profile_of_1
    simp
    rw [wo_inT, blD_b, Wo_some]
    have e1 : pfI ss p (i + 1) = pfI ss p i + if p.contains s then 2 ^ i else 0 := by
      show pfI ss p i + (if p.contains (ss.getD i "") then 2 ^ i else 0) = _
      rw [List.getD_eq_getElem?_getD, hs]; rfl
    refine ⟨fun hc => ?_, fun hc => ?_⟩
    · rw [wo_shl1 (by omega), wo_add]
      refine ⟨.val (nD i), .val (.str s), ?_, Pl_val, Pl_val⟩
      rw [e1, if_pos hc]
      simp
    · refine ⟨.val (nD i), .val (.str s), ?_, Pl_val, Pl_val⟩
      rw [e1, if_neg (by rw [hc]; exact Bool.false_ne_true)]
      simp
  · subst he
    rw [enumL_length, List.length_map]
    simp
end
theorem fmap_congr {α β : Type} {f g : α → Option β} : ∀ {l : List α}, (∀ x ∈ l, f x = g x) → l.filterMap f = l.filterMap g
  | [], _ => rfl
  | x :: l, h => by
    rw [List.filterMap_cons, List.filterMap_cons, h x (by simp), fmap_congr fun y hy => h y (by simp [hy])]
/-! the sets, by their bits -/
def ordP (ss p : List Str) : List Str := ss.filter fun s => p.contains s
def bitS (ss : List Str) (q : Nat) : List Str := (List.range ss.length).filterMap fun j => if q.testBit j then ss[j]? else none
theorem bitS_snoc {ss : List Str} {s : Str} {q : Nat} : bitS (ss ++ [s]) q = bitS ss q ++ if q.testBit ss.length then [s] else [] := by
  unfold bitS
  rw [List.length_append, List.length_singleton, List.range_succ, List.filterMap_append]
  congr 1
  · apply fmap_congr
    intro j hj
    rw [List.mem_range] at hj
    rw [List.getElem?_append_left hj]
  · by_cases hb : q.testBit ss.length = true <;> simp [hb]
theorem setsL_get (ss : List Str) : ∀ q, q < 2 ^ ss.length → (setsL ss)[q]? = some (bitS ss q) := by
  have key : ∀ (n : Nat) (ss : List Str), ss.length = n → ∀ q, q < 2 ^ ss.length → (setsL ss)[q]? = some (bitS ss q) := by
    intro n
    induction n with
    | zero =>
      intro ss h q hq
      have := List.length_eq_zero_iff.mp h
      subst this
      simp at hq
      subst hq
      rfl
    | succ n ih =>
      intro ss h q hq
      obtain ⟨ts, s, rfl⟩ : ∃ ts s, ss = ts ++ [s] := by
        have hne : ss ≠ [] := fun e => by rw [e] at h; simp at h
        exact ⟨ss.dropLast, ss.getLast hne, (List.dropLast_concat_getLast hne).symm⟩
      have hts : ts.length = n := by simpa using h
      rw [List.length_append, List.length_singleton, Nat.pow_succ] at hq
      rw [setsL_snoc, bitS_snoc]
      by_cases hlt : q < 2 ^ ts.length
      · rw [List.getElem?_append_left (by rw [setsL_len]; exact hlt), ih ts hts q hlt, Nat.testBit_lt_two_pow hlt]
        simp
      · rw [List.getElem?_append_right (by rw [setsL_len]; omega), setsL_len, List.getElem?_map, ih ts hts (q - 2 ^ ts.length) (by omega)]
        obtain ⟨r, rfl⟩ : ∃ r, q = 2 ^ ts.length + r := ⟨q - 2 ^ ts.length, by omega⟩
        have hr : r < 2 ^ ts.length := by omega
        rw [Nat.testBit_two_pow_add_eq, Nat.testBit_lt_two_pow hr]
        have e1 : 2 ^ ts.length + r - 2 ^ ts.length = r := by omega
        rw [e1]
        simp
        unfold bitS
        apply fmap_congr
        intro j hj
        rw [List.mem_range] at hj
        rw [Nat.testBit_two_pow_add_gt hj]
  exact key ss.length ss rfl
theorem bitS_mem {ss : List Str} (hn : ss.Nodup) {q j : Nat} {s : Str} (hj : ss[j]? = some s) : s ∈ bitS ss q ↔ q.testBit j = true := by
  unfold bitS
  rw [List.mem_filterMap]
  have hl := (List.getElem?_eq_some_iff.mp hj).1
  constructor
  · rintro ⟨i, hi, h⟩
    rw [List.mem_range] at hi
    split at h
    · rename_i hb
      have : i = j := (List.getElem?_inj hi hn).mp (h.trans hj.symm)
      rw [← this]; exact hb
    · cases h
  · intro hb
    exact ⟨j, List.mem_range.mpr hl, by rw [if_pos hb]; exact hj⟩
theorem bitS_inj {ss : List Str} (hn : ss.Nodup) {q r : Nat} (hq : q < 2 ^ ss.length) (hr : r < 2 ^ ss.length) (h : bitS ss q = bitS ss r) : q = r := by
  apply Nat.eq_of_testBit_eq
  intro j
  by_cases hj : j < ss.length
  · have e := List.getElem?_eq_getElem hj
    have h1 := bitS_mem hn (q := q) e
    have h2 := bitS_mem hn (q := r) e
    rw [h] at h1
    rw [Bool.eq_iff_iff, ← h1, ← h2]
  · have h2 := Nat.pow_le_pow_right (show 2 > 0 by decide) (show ss.length ≤ j by omega)
    rw [Nat.testBit_lt_two_pow (by omega), Nat.testBit_lt_two_pow (by omega)]
theorem filterMap_range {ss : List Str} {P : Str → Bool} : ∀ n, n ≤ ss.length → (List.range n).filterMap (fun j => if P (ss.getD j "") then ss[j]? else none) = (ss.take n).filter P
  | 0, _ => by simp
  | n + 1, h => by
    have e := List.getElem?_eq_getElem (show n < ss.length by omega)
    rw [List.range_succ, List.filterMap_append, filterMap_range n (by omega), take_snoc e, List.filter_append]
    congr 1
    simp only [List.filterMap_cons, List.filterMap_nil, List.filter_cons, List.filter_nil, List.getD_eq_getElem?_getD, e, Option.getD_some]
    by_cases hP : P ss[n] = true <;> simp [hP]
theorem bitS_pf {ss p : List Str} : bitS ss (pfN ss p) = ordP ss p := by
  have := filterMap_range (ss := ss) (P := fun s => p.contains s) ss.length (Nat.le_refl _)
  rw [List.take_length] at this
  unfold ordP
  rw [← this]
  unfold bitS
  apply fmap_congr
  intro j hj
  rw [List.mem_range] at hj
  rw [pfI_bit ss p _ _ hj]
theorem pf_bitS {ss : List Str} (hn : ss.Nodup) {q : Nat} (hq : q < 2 ^ ss.length) : pfN ss (bitS ss q) = q := by
  apply Nat.eq_of_testBit_eq
  intro j
  by_cases hj : j < ss.length
  · rw [pfI_bit ss _ _ _ hj]
    have e := List.getElem?_eq_getElem hj
    have h1 := bitS_mem hn (q := q) e
    rw [List.getD_eq_getElem?_getD, e]
    rw [Bool.eq_iff_iff, ← h1]
    simp
  · have h2 := Nat.pow_le_pow_right (show 2 > 0 by decide) (show ss.length ≤ j by omega)
    have h3 : pfN ss (bitS ss q) < 2 ^ ss.length := pfI_lt ss (bitS ss q) ss.length
    rw [Nat.testBit_lt_two_pow (by omega), Nat.testBit_lt_two_pow (by omega)]
/-- where a participant's set stands -/
theorem sets_at {ss p : List Str} (hn : ss.Nodup) : (setsL ss)[pfN ss p]? = some (ordP ss p) ∧ ∀ m, m < pfN ss p → (setsL ss)[m]? ≠ some (ordP ss p) := by
  have hl : pfN ss p < 2 ^ ss.length := pfI_lt ss p ss.length
  refine ⟨by rw [setsL_get ss _ hl, bitS_pf], fun m hm e => ?_⟩
  rw [setsL_get ss m (by omega)] at e
  have e2 : bitS ss m = bitS ss (pfN ss p) := by rw [bitS_pf]; exact Option.some.inj e
  have := bitS_inj hn (by omega) hl e2
  omega
theorem sets_bit {ss : List Str} {q : Nat} (hq : q < 2 ^ ss.length) : (setsL ss).getD q [] = bitS ss q := by
  rw [List.getD_eq_getElem?_getD, setsL_get ss q hq]; rfl
end Mir
/-! The law's own units. -/
namespace Mir
open PySem L2
theorem Kin.ok.gd {ss ac : List Str} {k : Kin} (h : k.ok ss ac) : k.gd ss ac 10 := ⟨⟨h.okx, h.dpx⟩, ⟨h.oky, h.dpy⟩, h.g, h.t⟩
theorem Sx.mem_bit {ss : List Str} (hn : ss.Nodup) {x : Sx} (hx : x.ok ss) {q : Nat} (hq : q < 2 ^ ss.length) : x.mem (bitS ss q) = bl ss q x := by
  rw [← bl_pf x hx, pf_bitS hn hq]
/-- the groups' sets -/
def grS (ss : List Str) (π : Option Nat) : List (List Str) := setsL ss ++ match π with | none => [] | some q => [bitS ss q]
theorem grS_len {ss : List Str} {π : Option Nat} : (grS ss π).length = gn (2 ^ ss.length) π := by
  unfold grS
  rw [List.length_append, setsL_len]
  cases π <;> rfl
theorem grS_get {ss : List Str} {π : Option Nat} (hπ : ∀ q, π = some q → q < 2 ^ ss.length) {i : Nat} (hi : i < gn (2 ^ ss.length) π) : (grS ss π).getD i [] = bitS ss (gp (2 ^ ss.length) π i) ∧ gp (2 ^ ss.length) π i < 2 ^ ss.length := by
  unfold grS gp
  by_cases z : i < 2 ^ ss.length
  · rw [if_pos z]
    refine ⟨?_, z⟩
    rw [List.getD_eq_getElem?_getD, List.getElem?_append_left (by rw [setsL_len]; exact z), setsL_get ss i z]; rfl
  · rw [if_neg z]
    cases π with
    | none => exact absurd hi z
    | some q =>
      have hi' : i < 2 ^ ss.length + 1 := hi
      have e : i = 2 ^ ss.length := by omega
      subst e
      refine ⟨?_, hπ q rfl⟩
      rw [List.getD_eq_getElem?_getD, List.getElem?_append_right (by rw [setsL_len]; omega), setsL_len]
      simp
theorem mems_grp {ss : List Str} (hn : ss.Nodup) {π : Option Nat} (hπ : ∀ q, π = some q → q < 2 ^ ss.length) {x : Sx} (hx : x.ok ss) : mems x (grS ss π) = grp ss (2 ^ ss.length) π x := by
  unfold mems grp
  rw [grS_len]
  apply List.filter_congr
  intro i hi
  obtain ⟨h1, h2⟩ := grS_get hπ (List.mem_range.mp hi)
  rw [h1, Sx.mem_bit hn hx h2]
section
variable {ss ac : List Str} {m1 m3 m4 : D} {ks : List Kin}
def J_v1 (v0 v1 v2 v3 v5 v6 v7 : Sl) (acc : List Un) (N : Nat) (nm : Str) (i : Nat) (js : List Nat) (t : Nat) (e : Env) : Prop := ∃ a8, e = [v0, v1, v2, v3, .own false (.lst ((acc ++ unR N nm i (js.take t)).map unD)), v5, v6, v7, a8] ∧ Pl a8
def J_v2 (v0 v1 v2 v3 v5 v6 : Sl) (acc : List Un) (N : Nat) (nm : Str) (is js : List Nat) (t : Nat) (e : Env) : Prop := ∃ a7 a8, e = [v0, v1, v2, v3, .own false (.lst ((acc ++ (is.take t).flatMap fun i => unR N nm i js).map unD)), v5, v6, a7, a8] ∧ Pl a7 ∧ Pl a8
def J_v3 (v0 v1 v2 v3 : Sl) (ss : List Str) (N : Nat) (π : Option Nat) (ks : List Kin) (t : Nat) (e : Env) : Prop := ∃ a5 a6 a7 a8, e = [v0, v1, v2, v3, .own false (.lst ((units ss N π (ks.take t)).map unD)), a5, a6, a7, a8] ∧ Pl a5 ∧ Pl a6 ∧ Pl a7 ∧ Pl a8
theorem lunits_ok {π : Option Nat} (hπ : ∀ q, π = some q → q < 2 ^ ss.length) (hn : ss.Nodup) (hl : ss.length ≤ 3) (hk : ks.length ≤ 6) (hg : ∀ k ∈ ks, k.ok ss ac) : Wo (m__law_units [md ss m1 (.tup (ks.map Kin.d)) m3 m4, opD π]) fun r => r = .lst ((units ss (2 ^ ss.length) π ks).map unD) := by
  have hp := pow_le hl
  obtain ⟨N, hN⟩ : ∃ N, N = 2 ^ ss.length := ⟨_, rfl⟩
  have hN8 : N ≤ 8 := by omega
  rw [← hN]
  have hgl := grS_len (ss := ss) (π := π)
  have hg9 : (grS ss π).length ≤ 9 := by rw [hgl, ← hN]; cases π <;> simp [gn] <;> omega
  unfold m__law_units
  refine w_run0 rfl ?_
  unfold m__law_units_B
  refine w_seq ?_
  simp
  refine (sets_ok hl).mono fun r hr => ?_
  subst hr
  refine w_seq ?_
  simp
  rw [setsL_len, ← hN]
  refine w_seq ?_
  refine W.mono (Q := fun fl e => fl = .nx ∧ e = [.val (md ss m1 (.tup (ks.map Kin.d)) m3 m4), .val (opD π), .val (lP (grS ss π)), .val (nD N), .un, .un, .un, .un, .un]) ?_ (fun fl e ⟨hfl, he⟩ => ?_)
  · cases π with
    | none => simp [opD, grS]
    | some q =>
      have hq := hπ q rfl
      simp [opD, isN]
      refine wo_ixE (enc := tS) (by omega) (by rw [setsL_len]; omega) fun row hrow => ?_
      rw [Int.toNat_natCast, setsL_get ss q hq] at hrow
      cases hrow
      refine ⟨by rw [setsL_len]; omega, by simp [grS]⟩
  · subst hfl he
    rw [seqK_nx]
    refine w_seq ?_
    simp
    refine w_seq ?_
    refine w_for.mpr ?_
    simp
    refine wfor_inv (J_v3 (.val (md ss m1 (.tup (ks.map Kin.d)) m3 m4)) (.val (opD π)) (.val (lP (grS ss π))) (.val (nD N)) ss N π ks) ⟨.un, .un, .un, .un, by simp [units], by simp⟩ (fun i d e hd ⟨a5, a6, a7, a8, he, h5, h6, h7, h8⟩ => ?_) (fun e ⟨a5, a6, a7, a8, he, h5, h6, h7, h8⟩ => ?_)
    · subst he
      rw [List.getElem?_map] at hd
      obtain ⟨k, hki, rfl⟩ := Option.map_eq_some_iff.mp hd
      have hkg := hg k (List.mem_of_getElem? hki)
      have hdx := hkg.dpx
      have hdy := hkg.dpy
      have hil := (List.getElem?_eq_some_iff.mp hki).1
      have hul : (units ss N π (ks.take i)).length ≤ 6 * 81 := by
        refine Nat.le_trans (units_len hN8 _) (Nat.mul_le_mul_right _ ?_)
        rw [List.length_take]; omega
      obtain ⟨acc, hac⟩ : ∃ acc, acc = units ss N π (ks.take i) := ⟨_, rfl⟩
      rw [← hac] at hul ⊢
      rw [wo_gN]
      simp [setV_pl, h5]
      unfold m__law_units_3
      refine w_seq ?_
      simp [Kin.d]
      refine (members_ok (x := k.py) (ps := grS ss π) (by omega) (by omega)).mono fun r hr => ?_
      subst hr
      rw [mems_grp hn hπ hkg.oky, ← hN]
      simp [setV_pl, h6]
      refine w_for.mpr ?_
      simp
      refine (members_ok (x := k.px) (ps := grS ss π) (by omega) (by omega)).mono fun r hr => ?_
      subst hr
      rw [mems_grp hn hπ hkg.okx, ← hN]
      simp
      have hjs := grp_len (ss := ss) (N := N) (π := π) (x := k.py)
      have his := grp_len (ss := ss) (N := N) (π := π) (x := k.px)
      obtain ⟨is, his'⟩ : ∃ is, is = grp ss N π k.px := ⟨_, rfl⟩
      obtain ⟨js, hjs'⟩ : ∃ js, js = grp ss N π k.py := ⟨_, rfl⟩
      rw [← his'] at his ⊢
      rw [← hjs'] at hjs ⊢
      refine wfor_inv (J_v2 (.val (md ss m1 (.tup (ks.map Kin.d)) m3 m4)) (.val (opD π)) (.val (lP (grS ss π))) (.val (nD N)) (.val (.tup [.str k.nm, k.px.d, .tup (k.giv.map enD), k.py.d, .tup (k.tak.map enD)])) (.val (.lst (js.map nD))) acc N k.nm is js) ⟨a7, a8, by simp, h7, h8⟩ (fun t d e hd ⟨b7, b8, he, k7, k8⟩ => ?_) (fun e ⟨b7, b8, he, k7, k8⟩ => ?_)
      · subst he
        rw [List.getElem?_map] at hd
        obtain ⟨q, hq, rfl⟩ := Option.map_eq_some_iff.mp hd
        have h81 := unP_len (N := N) (nm := k.nm) (js := js) (by omega) (is.take t)
        have h9 : (is.take t).length * 9 ≤ 9 * 9 := Nat.mul_le_mul_right _ (by rw [List.length_take]; omega)
        obtain ⟨acc2, hac2⟩ : ∃ x, x = acc ++ (is.take t).flatMap fun i => unR N k.nm i js := ⟨_, rfl⟩
        have hac2l : acc2.length ≤ 700 := by rw [hac2, List.length_append]; omega
        rw [← hac2]
        rw [wo_gN]
        simp [setV_pl, k7]
        unfold m__law_units_2
        refine w_for.mpr ?_
        simp
        refine wfor_inv (J_v1 (.val (md ss m1 (.tup (ks.map Kin.d)) m3 m4)) (.val (opD π)) (.val (lP (grS ss π))) (.val (nD N)) (.val (.tup [.str k.nm, k.px.d, .tup (k.giv.map enD), k.py.d, .tup (k.tak.map enD)])) (.val (.lst (js.map nD))) (.val (nD q)) acc2 N k.nm q js) ⟨b8, by simp [unR], k8⟩ (fun u d e hd ⟨c8, he, q8⟩ => ?_) (fun e ⟨c8, he, q8⟩ => ?_)
        · subst he
          rw [List.getElem?_map] at hd
          obtain ⟨j, hj, rfl⟩ := Option.map_eq_some_iff.mp hd
          have hrl := unR_len (N := N) (nm := k.nm) (i := q) (js := js.take u)
          have hrl2 : (js.take u).length ≤ 9 := by rw [List.length_take]; omega
          have fin : J_v1 (.val (md ss m1 (.tup (ks.map Kin.d)) m3 m4)) (.val (opD π)) (.val (lP (grS ss π))) (.val (nD N)) (.val (.tup [.str k.nm, k.px.d, .tup (k.giv.map enD), k.py.d, .tup (k.tak.map enD)])) (.val (.lst (js.map nD))) (.val (nD q)) acc2 N k.nm q js (u + 1) [.val (md ss m1 (.tup (ks.map Kin.d)) m3 m4), .val (opD π), .val (lP (grS ss π)), .val (nD N), .own false (.lst ((acc2 ++ unR N k.nm q (js.take u) ++ if q < N ∨ j < N then [(k.nm, q, j)] else []).map unD)), .val (.tup [.str k.nm, k.px.d, .tup (k.giv.map enD), k.py.d, .tup (k.tak.map enD)]), .val (.lst (js.map nD)), .val (nD q), .val (nD j)] := by
            refine ⟨.val (nD j), ?_, Pl_val⟩
            rw [take_snoc hj, unR_snoc, List.append_assoc]
          rw [wo_gN]
          simp [setV_pl, q8]
          unfold m__law_units_1
          by_cases h1 : q < N
          · rw [if_pos (Or.inl h1)] at fin
            simp [h1]
            refine ⟨by omega, ?_⟩
            simpa [unD] using fin
          · by_cases h2 : j < N
            · rw [if_pos (Or.inr h2)] at fin
              simp [h1, h2]
              refine ⟨by omega, ?_⟩
              simpa [unD] using fin
            · rw [if_neg (by omega)] at fin
              simp [h1, h2]
              simpa [unD] using fin
        · subst he
          rw [List.length_map, List.take_length]
          refine ⟨.val (nD q), c8, ?_, Pl_val, q8⟩
          rw [take_snoc hq, List.flatMap_append, hac2]
          simp
      · subst he
        rw [List.length_map, List.take_length]
        refine ⟨.val (.tup [.str k.nm, k.px.d, .tup (k.giv.map enD), k.py.d, .tup (k.tak.map enD)]), .val (.lst (js.map nD)), b7, b8, ?_, Pl_val, Pl_val, k7, k8⟩
        rw [take_snoc hki, hac]
        unfold units
        rw [List.flatMap_append, his', hjs']
        simp [unK]
    · subst he
      rw [List.length_map, List.take_length]
      simp
end
/-! units are different -/
theorem nodup_inj {α β : Type} {f : α → β} {xs : List α} (hf : ∀ a b, f a = f b → a = b) (h : xs.Nodup) : (xs.map f).Nodup := by
  unfold List.Nodup at *
  rw [List.pairwise_map]
  exact h.imp fun h e => h (hf _ _ e)
theorem nodup_flat {α β : Type} {f : α → List β} : ∀ {xs : List α}, (∀ x ∈ xs, (f x).Nodup) → (∀ x ∈ xs, ∀ y ∈ xs, ∀ b, b ∈ f x → b ∈ f y → x = y) → xs.Nodup → (xs.flatMap f).Nodup
  | [], _, _, _ => List.nodup_nil
  | x :: xs, h1, h2, hn => by
    rw [List.nodup_cons] at hn
    rw [List.flatMap_cons, List.nodup_append]
    refine ⟨h1 x (by simp), nodup_flat (fun y hy => h1 y (by simp [hy])) (fun y hy z hz => h2 y (by simp [hy]) z (by simp [hz])) hn.2, fun b hb c hc e => ?_⟩
    subst e
    obtain ⟨y, hy, hby⟩ := List.mem_flatMap.mp hc
    have := h2 x (by simp) y (by simp [hy]) b hb hby
    exact hn.1 (this ▸ hy)
theorem grp_nodup {ss : List Str} {N : Nat} {π : Option Nat} {x : Sx} : (grp ss N π x).Nodup := by
  unfold grp
  exact List.nodup_range.filter _
theorem unR_mem {N : Nat} {nm : Str} {i : Nat} {js : List Nat} {u : Un} : u ∈ unR N nm i js ↔ u.1 = nm ∧ u.2.1 = i ∧ u.2.2 ∈ js ∧ (i < N ∨ u.2.2 < N) := by
  unfold unR
  rw [List.mem_map]
  constructor
  · rintro ⟨j, hj, rfl⟩
    rw [List.mem_filter] at hj
    refine ⟨rfl, rfl, hj.1, ?_⟩
    simpa using hj.2
  · rintro ⟨h1, h2, h3, h4⟩
    refine ⟨u.2.2, List.mem_filter.mpr ⟨h3, by simpa using h4⟩, ?_⟩
    rw [← h1, ← h2]
theorem unK_mem {ss : List Str} {N : Nat} {π : Option Nat} {k : Kin} {u : Un} : u ∈ unK ss N π k ↔ u.1 = k.nm ∧ u.2.1 ∈ grp ss N π k.px ∧ u.2.2 ∈ grp ss N π k.py ∧ (u.2.1 < N ∨ u.2.2 < N) := by
  unfold unK
  rw [List.mem_flatMap]
  constructor
  · rintro ⟨i, hi, hu⟩
    obtain ⟨h1, h2, h3, h4⟩ := unR_mem.mp hu
    subst h2
    exact ⟨h1, hi, h3, h4⟩
  · rintro ⟨h1, h2, h3, h4⟩
    exact ⟨u.2.1, h2, unR_mem.mpr ⟨h1, rfl, h3, h4⟩⟩
theorem units_mem {ss : List Str} {N : Nat} {π : Option Nat} {ks : List Kin} {u : Un} : u ∈ units ss N π ks ↔ ∃ k ∈ ks, u.1 = k.nm ∧ u.2.1 ∈ grp ss N π k.px ∧ u.2.2 ∈ grp ss N π k.py ∧ (u.2.1 < N ∨ u.2.2 < N) := by
  unfold units
  rw [List.mem_flatMap]
  constructor
  · rintro ⟨k, hk, h⟩; exact ⟨k, hk, unK_mem.mp h⟩
  · rintro ⟨k, hk, h⟩; exact ⟨k, hk, unK_mem.mpr h⟩
theorem grp_mem {ss : List Str} {N : Nat} {π : Option Nat} {x : Sx} {i : Nat} : i ∈ grp ss N π x ↔ i < gn N π ∧ bl ss (gp N π i) x = true := by
  unfold grp
  rw [List.mem_filter, List.mem_range]
theorem units_nodup {ss : List Str} {N : Nat} {π : Option Nat} {ks : List Kin} (h : (ks.map Kin.nm).Nodup) : (units ss N π ks).Nodup := by
  have hks : ks.Nodup := nodup_of_map h
  unfold units
  refine nodup_flat (fun k _ => ?_) (fun k hk l hl u h1 h2 => ?_) hks
  · unfold unK
    refine nodup_flat (fun i _ => ?_) (fun i _ j _ u h1 h2 => ?_) grp_nodup
    · unfold unR
      refine nodup_inj (fun a b e => ?_) (grp_nodup.filter _)
      simpa using e
    · exact (unR_mem.mp h1).2.1.symm.trans (unR_mem.mp h2).2.1
  · have e1 : k.nm = l.nm := (unK_mem.mp h1).1.symm.trans (unK_mem.mp h2).1
    obtain ⟨i, hi1, hi2⟩ := List.getElem_of_mem hk
    obtain ⟨j, hj1, hj2⟩ := List.getElem_of_mem hl
    have h3 : (ks.map Kin.nm)[i]? = some k.nm := by simp [hi1, hi2]
    have h4 : (ks.map Kin.nm)[j]? = some l.nm := by simp [hj1, hj2]
    have : i = j := (List.getElem?_inj (by simpa using hi1) h).mp (by rw [h3, h4, e1])
    subst this
    rw [← hi2, ← hj2]
end Mir
/-! flows. -/
namespace Mir
open PySem L2
def prf (ss : List Str) (ps : List (List Str)) (p : Nat) : Nat := pfN ss (ps.getD p [])
theorem prf_lt {ss : List Str} {ps : List (List Str)} (p : Nat) : prf ss ps p < 2 ^ ss.length := pfI_lt ..
def flw (G : Nat → Nat) (ds : List Dl) (u : Un) : Int := (ds.map fun d => if (d.nm, G d.a, G d.b) = u then d.x else 0).sum
theorem flw_nil (G : Nat → Nat) (u : Un) : flw G [] u = 0 := rfl
theorem flw_snoc (G : Nat → Nat) (ds : List Dl) (d : Dl) (u : Un) : flw G (ds ++ [d]) u = flw G ds u + if (d.nm, G d.a, G d.b) = u then d.x else 0 := by
  unfold flw
  rw [List.map_append, List.sum_append]
  simp
def ukey (u : Un) : List Key := [.inr u.1, .inl (u.2.1 : Int), .inl (u.2.2 : Int)]
theorem ukey_inj {u v : Un} (h : ukey u = ukey v) : u = v := by
  unfold ukey at h
  obtain ⟨a, b, c⟩ := u
  obtain ⟨a', b', c'⟩ := v
  simp at h
  obtain ⟨h1, h2, h3⟩ := h
  subst h1
  have : b = b' := by omega
  have : c = c' := by omega
  subst_vars
  rfl
theorem ukey_d (u : Un) : keyTD (unD u) = some (ukey u) := rfl
def fPf (ss : List Str) : D → D
  | .tup l => match strsOf l with
    | some p => nD (pfN ss p)
    | none => .non
  | _ => .non
theorem fPf_t {ss p : List Str} : fPf ss (tS p) = nD (pfN ss p) := by
  unfold fPf
  dsimp only
  rw [strsOf_map]
abbrev gsD (n : Nat) (G : Nat → Nat) : List D := (List.range n).map fun p => nD (G p)
theorem gs_prof {ss : List Str} {ps : List (List Str)} : ps.map (fun p => nD (pfN ss p)) = gsD ps.length (prf ss ps) := by
  apply List.ext_getElem?
  intro i
  by_cases h : i < ps.length
  · simp [h, prf]
  · rw [List.getElem?_eq_none (by simpa using h), List.getElem?_eq_none (by simpa using h)]
theorem gs_set {n l N : Nat} {prof : Nat → Nat} (h : l < n) : (gsD n prof).set l (nD N) = gsD n (gof N prof (some l)) := by
  apply List.ext_getElem?
  intro i
  by_cases e : l = i
  · subst e
    rw [List.getElem?_set_self (by simpa using h)]
    simp [h, gof]
  · rw [List.getElem?_set_ne e]
    by_cases hi : i < n
    · have e' : ¬ i = l := fun z => e z.symm
      simp [hi, gof, e']
    · rw [List.getElem?_eq_none (by simpa using hi), List.getElem?_eq_none (by simpa using hi)]
theorem gs_get {n a : Nat} {G : Nat → Nat} (h : a < n) : (gsD n G)[((a : Nat) : Int).toNat]? = some (nD (G a)) := by
  simp [h]
theorem unit_in {ss : List Str} {ks : List Kin} {ac : List Str} {ps : List (List Str)} {d : Dl} {lone : Option Nat} (hg : ∀ k ∈ ks, k.ok ss ac) (hd : DlOk ks ps d) : (d.nm, gof (2 ^ ss.length) (prf ss ps) lone d.a, gof (2 ^ ss.length) (prf ss ps) lone d.b) ∈ units ss (2 ^ ss.length) (pof (prf ss ps) lone) ks := by
  obtain ⟨k, hk, hn, hx, hy⟩ := hd.kin
  have hkk := hg k hk
  rw [units_mem]
  refine ⟨k, hk, hn.symm, ?_, ?_, ?_⟩
  · rw [grp_mem]
    refine ⟨gof_lt prf_lt lone d.a, ?_⟩
    rw [gp_gof prf_lt]
    unfold prf
    rw [bl_pf _ hkk.okx]; exact hx
  · rw [grp_mem]
    refine ⟨gof_lt prf_lt lone d.b, ?_⟩
    rw [gp_gof prf_lt]
    unfold prf
    rw [bl_pf _ hkk.oky]; exact hy
  · have h1 := prf_lt (ss := ss) (ps := ps) d.a
    have h2 := prf_lt (ss := ss) (ps := ps) d.b
    have h3 := hd.ne
    cases lone with
    | none => exact .inl h1
    | some l =>
      by_cases e : d.a = l
      · right
        have : ¬ d.b = l := fun z => h3 (e.trans z.symm)
        simp only [gof, if_neg this]; exact h2
      · left
        simp only [gof, if_neg e]; exact h1
section
variable {ss : List Str} {m1 m2 m3 m4 : D}
theorem profile_apart_ok {ps : List (List Str)} {x : D} {lone : Option Nat} (hss : ss.length ≤ 3) (hlo : ∀ l, lone = some l → l < ps.length) : Wo (m_profile_apart [md ss m1 m2 m3 m4, .tup [.tup (ps.map tS), x], opD lone]) fun r => r = opD (pof (prf ss ps) lone) := by
  unfold m_profile_apart
  refine w_run0 rfl ?_
  unfold m_profile_apart_B
  refine w_seq ?_
  cases lone with
  | none => simp [opD, pof]
  | some l =>
    have hl := hlo l rfl
    simp [opD, isN]
    refine wo_ixET (enc := tS) (by omega) (by omega) fun p hp => ?_
    simp at hp
    refine (profile_of_ok hss).mono fun r hr => ?_
    subst hr
    simp [pof, prf, hp]
end
section
variable [Hs] {ss ac : List Str} {m1 m3 m4 : D} {ks : List Kin}
def J_f1 (E : Env) (us : List Un) (i : Nat) (kk : List (List Key)) (vv : List D) (e : Env) : Prop := e = E ∧ kk.length = vv.length ∧ kk.length ≤ i ∧ ∀ (j : Nat) u, j < i → us[j]? = some u → lookT kk vv (ukey u) = some (.int 0)
def J_f2 (v0 v1 v2 v3 v4 v5 : Sl) (us : List Un) (G : Nat → Nat) (ds : List Dl) (i : Nat) (e : Env) : Prop := ∃ (kk : List (List Key)) (vv : List D) (a7 a8 a9 a10 a11 : Sl), e = [v0, v1, v2, v3, v4, v5, .own false (.dt Hs.hs kk vv), a7, a8, a9, a10, a11] ∧ kk.length = vv.length ∧ kk.length ≤ us.length + i ∧ (∀ u ∈ us, lookT kk vv (ukey u) = some (.int (flw G (ds.take i) u))) ∧ Pl a7 ∧ Pl a8 ∧ Pl a9 ∧ Pl a10 ∧ Pl a11
def fLk (kk : List (List Key)) (vv : List D) : D → D := fun d => match keyTD d with
  | some k => (lookT kk vv k).getD .non
  | none => .non
theorem flows_ok {ps : List (List Str)} {ds : List Dl} {lone : Option Nat} (hlo : ∀ l, lone = some l → l < ps.length) (hl : ss.length ≤ 3) (hk : ks.length ≤ 6) (hg : ∀ k ∈ ks, k.ok ss ac) (hp : ps.length ≤ 1000) (hdl : ds.length ≤ 1000) (hd : ∀ d ∈ ds, DlOk ks ps d) :
    Wo (m_flows [md ss m1 (.tup (ks.map Kin.d)) m3 m4, .tup [.tup (ps.map tS), .tup (ds.map Dl.d)], opD lone]) fun r => r = tI ((units ss (2 ^ ss.length) (pof (prf ss ps) lone) ks).map (flw (gof (2 ^ ss.length) (prf ss ps) lone) ds)) := by
  have hpw := pow_le hl
  obtain ⟨N, hN⟩ : ∃ N, N = 2 ^ ss.length := ⟨_, rfl⟩
  have hN8 : N ≤ 8 := by omega
  have hun : ∀ d ∈ ds, (d.nm, gof N (prf ss ps) lone d.a, gof N (prf ss ps) lone d.b) ∈ units ss N (pof (prf ss ps) lone) ks := fun d h => by
    rw [hN]; exact unit_in hg (hd d h)
  have hul : (units ss N (pof (prf ss ps) lone) ks).length ≤ 6 * 81 := Nat.le_trans (units_len hN8 _) (Nat.mul_le_mul_right _ hk)
  rw [← hN]
  unfold m_flows
  refine w_run0 rfl ?_
  unfold m_flows_B
  refine w_seq ?_
  simp
  refine wlc_pureE (fPf ss) ?_
  simp [backE]
  refine ⟨by omega, fun p hp' => ?_, ?_⟩
  · refine (profile_of_ok hl).mono fun r hr => ?_
    subst hr
    simp [fPf_t]
  · have e0 : ps.map (fPf ss ∘ tS) = gsD ps.length (prf ss ps) := by
      rw [← gs_prof]
      apply List.map_congr_left
      intro p _
      simp [fPf_t]
    rw [e0]
    refine w_seq ?_
    refine W.mono (Q := fun fl e => fl = .nx ∧ e = [.val (md ss m1 (.tup (ks.map Kin.d)) m3 m4), .val (.tup [.tup (ps.map tS), .tup (ds.map Dl.d)]), .val (opD lone), .own false (.lst (gsD ps.length (gof N (prf ss ps) lone))), .un, .un, .un, .un, .un, .un, .un, .un]) ?_ (fun fl e ⟨hfl, he⟩ => ?_)
    · cases lone with
      | none => simp [opD, gof]
      | some l =>
        have hll := hlo l rfl
        simp [opD, isN]
        refine (count_ok hl).mono fun r hr => ?_
        subst hr
        rw [← hN]
        refine (wo_set (j := l) (by rw [ixN_pos (by omega) (by simp; omega)]; simp)).mpr ?_
        rw [gs_set hll]
    · subst hfl he
      rw [seqK_nx]
      obtain ⟨G, hG⟩ : ∃ G, G = gof N (prf ss ps) lone := ⟨_, rfl⟩
      rw [← hG] at hun ⊢
      refine w_seq ?_
      simp
      refine (profile_apart_ok hl hlo).mono fun r hr => ?_
      subst hr
      refine (units_ok (b := 10) hl (by omega) hk (fun k hk' => (hg k hk').gd)).mono fun r hr => ?_
      subst hr
      rw [← hN]
      obtain ⟨us, hus⟩ : ∃ us, us = units ss N (pof (prf ss ps) lone) ks := ⟨_, rfl⟩
      rw [← hus] at hun hul ⊢
      refine w_seq ?_
      simp
      refine w_dc.mpr ?_
      simp
      refine ⟨by omega, ?_⟩
      refine wdc_inv (J_f1 [.val (md ss m1 (.tup (ks.map Kin.d)) m3 m4), .val (.tup [.tup (ps.map tS), .tup (ds.map Dl.d)]), .val (opD lone), .own false (.lst (gsD ps.length G)), .un, .val (.tup (us.map unD)), .un, .un, .un, .un, .un, .un] us) ⟨rfl, rfl, by simp, fun j u hj => by omega⟩ (fun i d kk vv e hdi ⟨he, hkl, hki, hlk⟩ => ?_) (fun kk vv e ⟨he, hkl, hki, hlk⟩ => ?_)
      · subst he
        rw [List.getElem?_map] at hdi
        obtain ⟨u, hu, rfl⟩ := Option.map_eq_some_iff.mp hdi
        rw [wo_gN]
        simp
        rw [ukey_d, Wo_some]
        refine ⟨rfl, putT_len hkl, Nat.le_trans putTK_len (by omega), fun j v hj hv => ?_⟩
        rw [putT_look hkl]
        by_cases e : ukey v = ukey u
        · rw [if_pos e]
        · rw [if_neg e]
          refine hlk j v ?_ hv
          by_cases z : j = i
          · subst z; rw [hu] at hv; cases hv; exact absurd rfl e
          · omega
      · subst he
        rw [List.length_map] at hki hlk
        simp [backE]
        refine w_seq ?_
        refine w_for.mpr ?_
        simp
        refine wfor_inv (J_f2 (.val (md ss m1 (.tup (ks.map Kin.d)) m3 m4)) (.val (.tup [.tup (ps.map tS), .tup (ds.map Dl.d)])) (.val (opD lone)) (.own false (.lst (gsD ps.length G))) .un (.val (.tup (us.map unD))) us G ds) ⟨kk, vv, .un, .un, .un, .un, .un, rfl, hkl, by omega, fun u hu => ?_, by simp⟩ (fun i d0 e hd0 ⟨kk, vv, a7, a8, a9, a10, a11, he, hkl, hki, hlk, h7, h8, h9, h10, h11⟩ => ?_) (fun e ⟨kk, vv, a7, a8, a9, a10, a11, he, hkl, hki, hlk, h7, h8, h9, h10, h11⟩ => ?_)
        · obtain ⟨j, hj1, hj2⟩ := List.getElem_of_mem hu
          exact hlk j u hj1 (by rw [List.getElem?_eq_getElem hj1, hj2])
        · subst he
          rw [List.getElem?_map] at hd0
          obtain ⟨d, hdi, rfl⟩ := Option.map_eq_some_iff.mp hd0
          have hdm := List.mem_of_getElem? hdi
          have hil := (List.getElem?_eq_some_iff.mp hdi).1
          have hdo := hd d hdm
          have hui := hun d hdm
          simp [Dl.d, setV_pl, h8, h9, h10, h11]
          unfold m_flows_1
          refine w_seq ?_
          simp
          rw [wo_ixL (by omega) (gs_get hdo.la), wo_ixL (by omega) (gs_get hdo.lb)]
          simp [setV_pl, h7]
          have hky : keyTD (.tup [.str d.nm, nD (G d.a), nD (G d.b)]) = some (ukey (d.nm, G d.a, G d.b)) := rfl
          rw [wo_ix3 hky (hlk _ hui), wo_add]
          rw [wo_set3 hky (by omega)]
          refine ⟨_, _, .val (.tup [.str d.nm, nD (G d.a), nD (G d.b)]), .val (.str d.nm), .val (nD d.a), .val (nD d.b), .val (.int d.x), rfl, putT_len hkl, Nat.le_trans putTK_len (by omega), fun u hu => ?_, Pl_val, Pl_val, Pl_val, Pl_val, Pl_val⟩
          rw [putT_look hkl, take_snoc hdi, flw_snoc]
          by_cases z : (d.nm, G d.a, G d.b) = u
          · rw [if_pos (by rw [z]), if_pos z, ← z]
          · rw [if_neg (fun w => z (ukey_inj w).symm), if_neg z, hlk u hu, Int.add_zero]
        · subst he
          rw [List.length_map, List.take_length] at hlk
          simp
          refine wlc_pureE (fLk kk vv) ?_
          simp [backE, ownAt_pl, h7]
          refine ⟨by omega, fun d a b c hm he => ?_, ?_⟩
          · subst he
            try simp [setV_pl, h7]
            have hv := hlk _ hm
            rw [wo_ix3 (ukey_d (a, b, c)) hv]
            simp [fLk, ukey_d, hv]
          · intro a b c hm
            simp [fLk, ukey_d, hlk _ hm]
end
end Mir
/-! The law's own flows. -/
namespace Mir
open PySem L2
def fMem (p : List Str) : D → Bool
  | .str s => p.contains s
  | _ => false
theorem ordered_ok {ss p : List Str} {m1 m2 m3 m4 : D} (hl : ss.length ≤ 3) : Wo (m__law_ordered [md ss m1 m2 m3 m4, tS p]) fun r => r = tS (ordP ss p) := by
  unfold m__law_ordered
  refine w_run0 rfl ?_
  unfold m__law_ordered_B
  simp
  refine wlc_filtE (fMem p) id ?_
  simp [backE]
  refine ⟨by omega, fun s hs => ?_, ?_⟩
  · rw [wo_inT]
    simp [fMem]
  · unfold ordP
    rw [List.filter_map]
    rfl
theorem tS_gd {p : List Str} (h : ∀ s ∈ p, PyData.strOk s = true) : (tS p).gd = true := by
  show D.gds (p.map D.str) = true
  rw [gds_all]
  intro d hd
  obtain ⟨s, hs, rfl⟩ := List.mem_map.mp hd
  exact h s hs
theorem tS_dp {p : List Str} : (tS p).dp ≤ 1 := by
  show D.dps (p.map D.str) + 1 ≤ 1
  have : D.dps (p.map D.str) ≤ 0 := by
    rw [dps_le]
    intro d hd
    obtain ⟨s, hs, rfl⟩ := List.mem_map.mp hd
    exact Nat.le_refl _
  omega
theorem sets_gd {ss : List Str} (h : ∀ s ∈ ss, PyData.strOk s = true) : D.gds ((setsL ss).map tS) = true ∧ D.dps ((setsL ss).map tS) ≤ 60 := by
  rw [gds_all, dps_le]
  constructor
  · intro d hd
    obtain ⟨p, hp, rfl⟩ := List.mem_map.mp hd
    exact tS_gd fun s hs => h s ((setsL_row ss p hp).subset hs)
  · intro d hd
    obtain ⟨p, hp, rfl⟩ := List.mem_map.mp hd
    exact Nat.le_trans tS_dp (by decide)
theorem ordP_sub {ss p : List Str} : ∀ s ∈ ordP ss p, s ∈ ss := fun s h => (List.mem_filter.mp h).1
/-- where a participant's set stands -/
theorem wo_group {R : D → Prop} {ss p : List Str} (hn : ss.Nodup) (hs : ∀ s ∈ ss, PyData.strOk s = true) (q : R (nD (pfN ss p))) : Wo (idxN (.lst ((setsL ss).map tS)) (tS (ordP ss p))) R := by
  obtain ⟨h1, h2⟩ := sets_at (ss := ss) (p := p) hn
  obtain ⟨g1, g2⟩ := sets_gd hs
  have inj : ∀ {a b : List Str}, tS a = tS b → a = b := fun {a b} e => by
    injection e with e
    exact List.map_inj_right (fun x y e => by injection e) |>.mp e
  refine wo_idxN g1 (tS_gd fun s h => hs s (ordP_sub s h)) g2 (Nat.le_trans tS_dp (by decide)) (by rw [List.getElem?_map, h1]; rfl) (fun m hm e => ?_) q
  rw [List.getElem?_map] at e
  obtain ⟨x, hx, e⟩ := Option.map_eq_some_iff.mp e
  exact h2 m hm (by rw [hx, inj e])
theorem unD_gd {u : Un} (h : PyData.strOk u.1 = true) : (unD u).gd = true := by
  simp [unD, D.gd, D.gds, h]
theorem unD_dp {u : Un} : (unD u).dp ≤ 1 := by
  simp [unD, D.dp, D.dps]
theorem unD_inj {u v : Un} (h : unD u = unD v) : u = v := by
  obtain ⟨a, b, c⟩ := u
  obtain ⟨a', b', c'⟩ := v
  simp [unD] at h
  obtain ⟨h1, h2, h3⟩ := h
  subst h1
  have : b = b' := by omega
  have : c = c' := by omega
  subst_vars
  rfl
theorem wo_unit {R : D → Prop} {us : List Un} {u : Un} {j : Nat} (hn : us.Nodup) (hs : ∀ v ∈ us, PyData.strOk v.1 = true) (hj : us[j]? = some u) (q : R (nD j)) : Wo (idxN (.lst (us.map unD)) (unD u)) R := by
  refine wo_idxN ?_ (unD_gd (hs u (List.mem_of_getElem? hj))) ?_ (Nat.le_trans unD_dp (by decide)) (by rw [List.getElem?_map, hj]; rfl) (fun m hm e => ?_) q
  · rw [gds_all]
    intro d hd
    obtain ⟨v, hv, rfl⟩ := List.mem_map.mp hd
    exact unD_gd (hs v hv)
  · rw [dps_le]
    intro d hd
    obtain ⟨v, hv, rfl⟩ := List.mem_map.mp hd
    exact Nat.le_trans unD_dp (by decide)
  · rw [List.getElem?_map] at e
    obtain ⟨x, hx, e⟩ := Option.map_eq_some_iff.mp e
    have := unD_inj e
    subst this
    have hl := (List.getElem?_eq_some_iff.mp hx).1
    have : m = j := (List.getElem?_inj hl hn).mp (hx.trans hj.symm)
    omega
section
variable {ss ac : List Str} {m1 m3 m4 : D} {ks : List Kin}
def J_lf (v0 v1 v2 v3 v4 v5 v6 v7 v8 : Sl) (us : List Un) (G : Nat → Nat) (ds : List Dl) (i : Nat) (e : Env) : Prop := ∃ (a10 a11 : Sl), e = [v0, v1, v2, v3, v4, v5, v6, v7, v8, .own false (.lst ((us.map (flw G (ds.take i))).map D.int)), a10, a11] ∧ Pl a10 ∧ Pl a11
theorem amt_set {us : List Un} (hn : us.Nodup) {f g : Un → Int} {u : Un} {j : Nat} (hj : us[j]? = some u) (h1 : ∀ v, v ≠ u → g v = f v) : ((us.map f).map D.int).set j (.int (g u)) = (us.map g).map D.int := by
  apply List.ext_getElem?
  intro i
  have hl := (List.getElem?_eq_some_iff.mp hj).1
  by_cases e : j = i
  · subst e
    rw [List.getElem?_set_self (by simpa using hl)]
    simp [hj]
  · rw [List.getElem?_set_ne e]
    simp only [List.getElem?_map]
    cases hv : us[i]? with
    | none => rfl
    | some v =>
      have hne : v ≠ u := fun z => by
        subst z
        exact e ((List.getElem?_inj hl hn).mp (hj.trans hv.symm))
      simp [h1 v hne]
theorem lflows_ok {ps : List (List Str)} {ds : List Dl} {lone : Option Nat} (hlo : ∀ l, lone = some l → l < ps.length) (hn : ss.Nodup) (hso : ∀ s ∈ ss, PyData.strOk s = true) (hl : ss.length ≤ 3) (hk : ks.length ≤ 6) (hkn : (ks.map Kin.nm).Nodup) (hks : ∀ k ∈ ks, PyData.strOk k.nm = true) (hg : ∀ k ∈ ks, k.ok ss ac) (hp : ps.length ≤ 1000) (hdl : ds.length ≤ 1000) (hd : ∀ d ∈ ds, DlOk ks ps d) :
    Wo (m__law_flows [md ss m1 (.tup (ks.map Kin.d)) m3 m4, lP ps, .lst (ds.map Dl.d), opD lone]) fun r => r = tI ((units ss (2 ^ ss.length) (pof (prf ss ps) lone) ks).map (flw (gof (2 ^ ss.length) (prf ss ps) lone) ds)) := by
  have hpw := pow_le hl
  obtain ⟨N, hN⟩ : ∃ N, N = 2 ^ ss.length := ⟨_, rfl⟩
  have hN8 : N ≤ 8 := by omega
  have hun : ∀ d ∈ ds, (d.nm, gof N (prf ss ps) lone d.a, gof N (prf ss ps) lone d.b) ∈ units ss N (pof (prf ss ps) lone) ks := fun d h => by
    rw [hN]; exact unit_in hg (hd d h)
  have hul : (units ss N (pof (prf ss ps) lone) ks).length ≤ 6 * 81 := Nat.le_trans (units_len hN8 _) (Nat.mul_le_mul_right _ hk)
  have hpi : ∀ q, pof (prf ss ps) lone = some q → q < 2 ^ ss.length := fun q e => by
    cases lone with
    | none => cases e
    | some l => cases e; exact prf_lt l
  rw [← hN]
  unfold m__law_flows
  refine w_run0 rfl ?_
  unfold m__law_flows_B
  refine w_seq ?_
  simp
  refine (sets_ok hl).mono fun r hr => ?_
  subst hr
  refine w_seq ?_
  simp
  refine wlc_pureE (fPf ss) ?_
  simp [backE]
  refine ⟨by omega, fun p hp' => ?_, ?_⟩
  · refine (ordered_ok hl).mono fun r hr => ?_
    subst hr
    refine wo_group hn hso ?_
    simp [fPf_t]
  · have e0 : ps.map (fPf ss ∘ tS) = gsD ps.length (prf ss ps) := by
      rw [← gs_prof]
      apply List.map_congr_left
      intro p _
      simp [fPf_t]
    rw [e0]
    refine w_seq ?_
    simp
    refine w_seq ?_
    refine W.mono (Q := fun fl e => fl = .nx ∧ e = [.val (md ss m1 (.tup (ks.map Kin.d)) m3 m4), .val (lP ps), .val (.lst (ds.map Dl.d)), .val (opD lone), .val (.lst ((setsL ss).map tS)), .own false (.lst (gsD ps.length (gof N (prf ss ps) lone))), .un, .val (opD (pof (prf ss ps) lone)), .un, .un, .un, .un]) ?_ (fun fl e ⟨hfl, he⟩ => ?_)
    · cases lone with
      | none => simp [opD, gof, pof]
      | some l =>
        have hll := hlo l rfl
        simp [opD, isN]
        refine w_seq ?_
        try simp
        rw [wo_ixL (by omega) (gs_get hll)]
        try simp
        rw [setsL_len, ← hN]
        refine (wo_set (j := l) (by rw [ixN_pos (by omega) (by simp; omega)]; simp)).mpr ?_
        rw [gs_set hll]
        simp [pof]
    · subst hfl he
      rw [seqK_nx]
      obtain ⟨G, hG⟩ : ∃ G, G = gof N (prf ss ps) lone := ⟨_, rfl⟩
      rw [← hG] at hun ⊢
      refine w_seq ?_
      simp
      refine (lunits_ok hpi hn hl hk hg).mono fun r hr => ?_
      subst hr
      rw [← hN]
      have hus0 : (units ss N (pof (prf ss ps) lone) ks).Nodup := units_nodup hkn
      have hst0 : ∀ u ∈ units ss N (pof (prf ss ps) lone) ks, PyData.strOk u.1 = true := fun u hu => by
        obtain ⟨k, hk', e, _⟩ := units_mem.mp hu
        rw [e]; exact hks k hk'
      obtain ⟨us, hus⟩ : ∃ us, us = units ss N (pof (prf ss ps) lone) ks := ⟨_, rfl⟩
      rw [← hus] at hun hul hus0 hst0 ⊢
      refine w_seq ?_
      simp
      refine ⟨by omega, ?_⟩
      have e1 : List.replicate us.length (D.int 0) = (us.map (flw G (ds.take 0))).map D.int := by
        have : us.map (flw G (ds.take 0)) = us.map fun _ => 0 := List.map_congr_left fun u _ => flw_nil G u
        rw [this, List.map_const', List.map_replicate]
      rw [e1]
      refine w_seq ?_
      refine w_for.mpr ?_
      simp only [w_itSeq, w_var, valAt]
      simp
      refine wfor_inv (J_lf (.val (md ss m1 (.tup (ks.map Kin.d)) m3 m4)) (.val (lP ps)) (.val (.lst (ds.map Dl.d))) (.val (opD lone)) (.val (.lst ((setsL ss).map tS))) (.own false (.lst (gsD ps.length G))) .un (.val (opD (pof (prf ss ps) lone))) (.val (.lst (us.map unD))) us G ds) ⟨.un, .un, by simp, Pl_un, Pl_un⟩ (fun i d0 e hd0 ⟨a10, a11, he, h10, h11⟩ => ?_) (fun e ⟨a10, a11, he, h10, h11⟩ => ?_)
      · subst he
        rw [List.getElem?_map] at hd0
        obtain ⟨d, hdi, rfl⟩ := Option.map_eq_some_iff.mp hd0
        have hdm := List.mem_of_getElem? hdi
        have hdo := hd d hdm
        obtain ⟨j, hj1, hj2⟩ := List.getElem_of_mem (hun d hdm)
        have hj : us[j]? = some (d.nm, G d.a, G d.b) := by rw [List.getElem?_eq_getElem hj1, hj2]
        rw [wo_gN]
        simp [setV_pl, h10]
        unfold m__law_flows_1
        refine w_seq ?_
        simp [Dl.d]
        rw [wo_ixL (by omega) (gs_get hdo.la), wo_ixL (by omega) (gs_get hdo.lb)]
        try simp
        refine wo_unit hus0 hst0 hj ?_
        try simp [setV_pl, h11]
        have hget : (((us.map (flw G (ds.take i))).map D.int))[((j : Nat) : Int).toNat]? = some (.int (flw G (ds.take i) (d.nm, G d.a, G d.b))) := by
          rw [Int.toNat_natCast]; simp [hj]
        have hl9 : ((us.map (flw G (ds.take i))).map D.int).length = us.length := by simp
        obtain ⟨L, hL⟩ : ∃ L, L = (us.map (flw G (ds.take i))).map D.int := ⟨_, rfl⟩
        have hL2 : List.map (D.int ∘ flw G (ds.take i)) us = L := by rw [hL, List.map_map]
        rw [← hL] at hget hl9
        rw [hL2]
        rw [wo_ixL (by omega) hget, wo_add]
        refine (wo_set (j := j) (by rw [ixN_pos (by omega) (by omega)]; simp)).mpr ?_
        refine ⟨.val d.d, .val (nD j), ?_, Pl_val, Pl_val⟩
        have e3 : flw G (ds.take i) (d.nm, G d.a, G d.b) + d.x = flw G (ds.take (i + 1)) (d.nm, G d.a, G d.b) := by
          rw [take_snoc hdi, flw_snoc, if_pos rfl]
        rw [e3, hL, amt_set hus0 (f := flw G (ds.take i)) (g := flw G (ds.take (i + 1))) hj fun v hv => ?_]
        · simp [Dl.d]
        · rw [take_snoc hdi, flw_snoc, if_neg (fun z => hv z.symm), Int.add_zero]
      · subst he
        rw [List.length_map, List.take_length]
        simp
end
end Mir
/-! Values of sums, by the program and by the law. -/
namespace Mir
open PySem L2
/-! bounds -/
theorem ctr_small {ks : List Kin} {n : Nat} {d : Dl} {ss ac : List Str} (hg : ∀ k ∈ ks, k.ok ss ac) (h : DlG ks n d) (p : Nat) (s : Str) : (ctr ks d p s).natAbs ≤ 2 ^ 330 := by
  obtain ⟨k, hk, hkf, hkn⟩ := kof_some h.kin
  have hkk := hg k hk
  have h1 : (entS (gvE ks d.nm) s).natAbs ≤ 2 ^ 22 := by unfold gvE; rw [hkf]; exact hkk.g.ent s
  have h2 : (entS (tkE ks d.nm) s).natAbs ≤ 2 ^ 22 := by unfold tkE; rw [hkf]; exact hkk.t.ent s
  have h3 := h.sm
  have m1 := mul_abs (Nat.le_of_lt h3) h1
  have m2 := mul_abs (Nat.le_of_lt h3) h2
  unfold ctr
  have e : 2 ^ 300 * 2 ^ 22 = 2 ^ 322 := by rw [← Nat.pow_add]
  rw [e] at m1 m2
  have e2 : 2 ^ 322 + 2 ^ 322 ≤ 2 ^ 330 := by
    have : 2 ^ 330 = 2 ^ 322 * 2 ^ 8 := by rw [← Nat.pow_add]
    omega
  have t : ∀ (a b : Int) (B : Nat), a.natAbs ≤ B → b.natAbs ≤ B → (a + b).natAbs ≤ B + B := fun a b B ha hb => by omega
  refine Nat.le_trans (t _ _ (2 ^ 322) ?_ ?_) e2
  · split
    · exact m1
    · simp
  · split
    · exact m2
    · simp
theorem bal_small {ks : List Kin} {n : Nat} {ds : List Dl} {ss ac : List Str} (hg : ∀ k ∈ ks, k.ok ss ac) (hl : ds.length ≤ 1000) (h : ∀ d ∈ ds, DlG ks n d) (p : Nat) (s : Str) : (bal ks ds p s).natAbs ≤ 2 ^ 340 := by
  unfold bal
  have h1 := sum_abs (xs := ds.map fun d => ctr ks d p s) (B := 2 ^ 330) fun x hx => by
    obtain ⟨d, hd, rfl⟩ := List.mem_map.mp hx
    exact ctr_small hg (h d hd) p s
  rw [List.length_map] at h1
  refine Nat.le_trans h1 (Nat.le_trans (Nat.mul_le_mul_right _ (show ds.length ≤ 2 ^ 10 by omega)) ?_)
  rw [← Nat.pow_add]
  exact Nat.le_refl _
/-- the value of a sum -/
def vterm (ps : List (List Str)) (B : Nat → Str → Int) (t : Int × Str × Sx) : Int := t.1 * ((mems t.2.2 ps).map fun p => B p t.2.1).sum
def vsum (ps : List (List Str)) (B : Nat → Str → Int) (ts : List (Int × Str × Sx)) : Int := (ts.map (vterm ps B)).sum
theorem vsum_snoc (ps : List (List Str)) (B : Nat → Str → Int) (ts : List (Int × Str × Sx)) (t : Int × Str × Sx) : vsum ps B (ts ++ [t]) = vsum ps B ts + vterm ps B t := by
  unfold vsum
  rw [List.map_append, List.sum_append]
  simp
section
variable {ss ac : List Str} {m2 m3 m4 : D} {ks : List Kin}
theorem pmembers_ok {m1 : D} {ps : List (List Str)} {x : Sx} (hl : ss.length ≤ 3) (hp : ps.length ≤ 1000) (hx : x.gd ss 40) : Wo (m_members [md ss m1 m2 m3 m4, .tup (ps.map tS), x.d]) fun r => r = lN (mems x ps) := by
  unfold m_members
  refine w_run0 rfl ?_
  unfold m_members_B
  simp
  refine wlc_filtE (fun d => match d with | .tup [.int k, _] => x.mem (ps.getD k.toNat []) | _ => false) fE0 ?_
  simp [backE]
  rw [enum_map]
  refine ⟨by simp; omega, fun d hd => ?_, ?_⟩
  · obtain ⟨k, hk, rfl⟩ := List.mem_map.mp hd
    rw [List.mem_range, List.length_map] at hk
    have e1 : (ps.map tS).getD k .non = tS ps[k] := by simp [hk]
    rw [e1]
    simp
    refine (profile_of_ok hl).mono fun r hr => ?_
    subst hr
    refine (belongs_ok x 40 hx.2 hx.1).mono fun r hr => ?_
    subst hr
    rw [bl_pf x hx.1]
    simp [hk, fE0]
  · rw [List.filter_map, List.map_map]
    unfold mems
    rw [List.length_map]
    simp [fE0, Function.comp_def]
def fPl (F : Nat → Str → Int) (s : Str) : D → D
  | .int k => .int (F k.toNat s)
  | _ => .non
def J_sv (v0 v1 v2 v3 : Sl) (ps : List (List Str)) (B : Nat → Str → Int) (ts : List (Int × Str × Sx)) (i : Nat) (e : Env) : Prop := ∃ a5 a6 a7 a8 a9, e = [v0, v1, v2, v3, .val (.int (vsum ps B (ts.take i))), a5, a6, a7, a8, a9] ∧ Pl a5 ∧ Pl a6 ∧ Pl a7 ∧ Pl a8 ∧ Pl a9
theorem plog {x : Int} {B : Nat} (h : x.natAbs ≤ 2 ^ B) (hB : B ≤ 900000) : x.natAbs.log2 ≤ 900000 := by
  have : x.natAbs < 2 ^ (B + 1) := Nat.lt_of_le_of_lt h (Nat.pow_lt_pow_right (by decide) (by omega))
  by_cases z : x.natAbs = 0
  · rw [z]; simp
  · have := (Nat.log2_lt z).mpr this; omega
theorem term_log {ps : List (List Str)} {B : Nat → Str → Int} {t : Int × Str × Sx} (hb : ∀ p s, (B p s).natAbs ≤ 2 ^ 340) (hp : ps.length ≤ 1000) (ht : t.1.natAbs < 2 ^ 20) : t.1.natAbs.log2 + ((mems t.2.2 ps).map fun p => B p t.2.1).sum.natAbs.log2 < 1000000 := by
  have h1 := natlog ht
  have h2 := sum_abs (xs := (mems t.2.2 ps).map fun p => B p t.2.1) (B := 2 ^ 340) fun x hx => by
    obtain ⟨p, _, rfl⟩ := List.mem_map.mp hx
    exact hb p _
  rw [List.length_map] at h2
  have h3 := mems_len (x := t.2.2) (ps := ps)
  have h4 : (mems t.2.2 ps).length * 2 ^ 340 ≤ 2 ^ 10 * 2 ^ 340 := Nat.mul_le_mul_right _ (by omega)
  rw [← Nat.pow_add] at h4
  have h5 := plog (Nat.le_trans h2 h4) (by decide)
  omega
theorem sum_value_ok {b : Nat} {ps : List (List Str)} {B : Nat → Str → Int} {ts : List (Int × Str × Sx)} (hl : ss.length ≤ 3) (hp : ps.length ≤ 1000) (hb : ∀ p s, (B p s).natAbs ≤ 2 ^ 340) (hbb : b ≤ 40) (hts : ∀ t ∈ ts, t.2.1 ∈ ac ∧ t.1.natAbs < 2 ^ 20 ∧ t.2.2.gd ss b) :
    Wo (m_sum_value [md ss (tS ac) m2 m3 m4, .tup (ps.map tS), .tup ((tabL ac ps.length B).map D.tup), .tup (ts.map tsD)]) fun r => r = .int (vsum ps B ts) := by
  unfold m_sum_value
  refine w_run0 rfl ?_
  unfold m_sum_value_B
  refine w_seq ?_
  simp
  refine w_seq ?_
  refine w_for.mpr ?_
  simp
  refine wfor_inv (J_sv (.val (md ss (tS ac) m2 m3 m4)) (.val (.tup (ps.map tS))) (.val (.tup ((tabL ac ps.length B).map D.tup))) (.val (.tup (ts.map tsD))) ps B ts) ⟨.un, .un, .un, .un, .un, rfl, by simp⟩ (fun i d e hd ⟨a5, a6, a7, a8, a9, he, h5, h6, h7, h8, h9⟩ => ?_) (fun e ⟨a5, a6, a7, a8, a9, he, h5, h6, h7, h8, h9⟩ => ?_)
  · subst he
    rw [List.getElem?_map] at hd
    obtain ⟨t, ht, rfl⟩ := Option.map_eq_some_iff.mp hd
    obtain ⟨ht1, ht2, ht3⟩ := hts t (List.mem_of_getElem? ht)
    obtain ⟨hj1, hj2⟩ := ix_facts ht1
    have hjl := (List.getElem?_eq_some_iff.mp hj2).1
    simp [tsD, setV_pl, h5, h6, h7]
    unfold m_sum_value_1
    refine w_seq ?_
    simp
    rw [show tupD (tS ac) = some (ac.map D.str) from rfl, Wo_some, wo_idxS ht1]
    simp [setV_pl, h8]
    refine wlc_pureE (fPl B t.2.1) ?_
    simp
    refine (pmembers_ok hl hp ⟨ht3.1, by have := ht3.2; omega⟩).mono fun r hr => ?_
    subst hr
    have hml := mems_len (x := t.2.2) (ps := ps)
    simp [backE, ownAt_pl, h9]
    refine ⟨by omega, fun p hpm => ?_, ?_⟩
    · have hpl := (mems_mem.mp hpm).1
      try simp [setV_pl, h9]
      rw [wo_ixT (d := .tup (rI ac (B p))) (by omega) (by rw [Int.toNat_natCast, List.getElem?_map, tabL_get hpl]; rfl)]
      rw [wo_ixT (d := .int (B p t.2.1)) (by omega) (by rw [Int.toNat_natCast]; exact rI_get hj2)]
      simp [fPl]
    · have e1 : (mems t.2.2 ps).map (fPl B t.2.1 ∘ nD) = ((mems t.2.2 ps).map fun p => B p t.2.1).map D.int := by
        rw [List.map_map]
        apply List.map_congr_left
        intro p _
        simp [fPl, nD]
      rw [e1, wo_sum]
      rw [wo_mul]
      refine ⟨term_log hb hp ht2, ?_⟩
      rw [wo_add]
      refine ⟨.val (.int t.1), .val (.str t.2.1), .val t.2.2.d, .val (nD (ix ac t.2.1)), a9, ?_, Pl_val, Pl_val, Pl_val, Pl_val, h9⟩
      rw [take_snoc ht, vsum_snoc]
      simp [tsD, vterm]
  · subst he
    rw [List.length_map, List.take_length]
    simp
/-- value of a sum -/
theorem value_ok {b : Nat} {ps : List (List Str)} {ds : List Dl} {ts : List (Int × Str × Sx)} {r : Bool} (hl : ss.length ≤ 3) (hac : ac.length ≤ 4) (hbb : b ≤ 40) (hkl : ks.length ≤ 20) (hg : ∀ k ∈ ks, k.ok ss ac) (hp : ps.length ≤ 1000) (hdl : ds.length ≤ 1000) (hd : ∀ d ∈ ds, DlG ks ps.length d) (hts : ∀ t ∈ ts, t.2.1 ∈ ac ∧ t.1.natAbs < 2 ^ 20 ∧ t.2.2.gd ss b) :
    Wo (m_value [.tup [tS ss, tS ac, .tup (ks.map Kin.d), m3, m4], .tup [.tup (ps.map tS), .tup (ds.map Dl.d)], (Cn.sum ts r).d]) fun r => r = .int (vsum ps (bal ks ds) ts) := by
  unfold m_value
  refine w_run0 rfl ?_
  unfold m_value_B
  simp
  refine (balances_ok (ss := ss) hac hkl hg (pp := ps.map tS) (by simpa using hp) hdl (by simpa using hd)).mono fun r hr => ?_
  subst hr
  rw [List.length_map]
  unfold m_value_by
  refine w_run0 rfl ?_
  unfold m_value_by_B
  refine w_seq ?_
  simp [Cn.d]
  exact sum_value_ok hl hp (fun p s => bal_small hg hdl hd p s) hbb hts
def J_lv (v0 v1 v2 v3 v8 : Sl) (ps : List (List Str)) (B : Nat → Str → Int) (ts : List (Int × Str × Sx)) (i : Nat) (e : Env) : Prop := ∃ a5 a6 a7, e = [v0, v1, v2, v3, .val (.int (vsum ps B (ts.take i))), a5, a6, a7, v8] ∧ Pl a5 ∧ Pl a6 ∧ Pl a7
theorem lvalue_ok {b : Nat} {ps : List (List Str)} {B : Nat → Str → Int} {ts : List (Int × Str × Sx)} {r : Bool} (hp : ps.length ≤ 1000) (hb : ∀ p s, (B p s).natAbs ≤ 2 ^ 340) (hbb : b ≤ 40) (hts : ∀ t ∈ ts, t.2.1 ∈ ac ∧ t.1.natAbs < 2 ^ 20 ∧ t.2.2.gd ss b) :
    Wo (m__law_value [md ss (tS ac) m2 m3 m4, lP ps, .lst ((tabL ac ps.length B).map D.lst), (Cn.sum ts r).d]) fun r => r = .int (vsum ps B ts) := by
  unfold m__law_value
  refine w_run0 rfl ?_
  unfold m__law_value_B
  refine w_seq ?_
  simp [Cn.d]
  refine w_seq ?_
  simp
  refine w_seq ?_
  refine w_for.mpr ?_
  simp
  refine wfor_inv (J_lv (.val (md ss (tS ac) m2 m3 m4)) (.val (lP ps)) (.val (.lst ((tabL ac ps.length B).map D.lst))) (.val (Cn.sum ts r).d) .un ps B ts) ⟨.un, .un, .un, rfl, by simp⟩ (fun i d e hd ⟨a5, a6, a7, he, h5, h6, h7⟩ => ?_) (fun e ⟨a5, a6, a7, he, h5, h6, h7⟩ => ?_)
  · subst he
    rw [List.getElem?_map] at hd
    obtain ⟨t, ht, rfl⟩ := Option.map_eq_some_iff.mp hd
    obtain ⟨ht1, ht2, ht3⟩ := hts t (List.mem_of_getElem? ht)
    obtain ⟨hj1, hj2⟩ := ix_facts ht1
    have hjl := (List.getElem?_eq_some_iff.mp hj2).1
    have htd := ht3.2
    rw [wo_gN]
    simp [setV_pl, h5]
    unfold m__law_value_1
    refine w_seq ?_
    simp [tsD]
    rw [show tupD (tS ac) = some (ac.map D.str) from rfl, Wo_some, wo_idxS ht1]
    simp [setV_pl, h6]
    refine wlc_pureE (fPl B t.2.1) ?_
    simp
    refine (members_ok (x := t.2.2) (by omega) hp).mono fun r hr => ?_
    subst hr
    have hml := mems_len (x := t.2.2) (ps := ps)
    simp [backE, ownAt_pl, h7]
    refine ⟨by omega, fun p hpm => ?_, ?_⟩
    · have hpl := (mems_mem.mp hpm).1
      try simp [setV_pl, h7]
      rw [wo_ixL (d := .lst (rI ac (B p))) (by omega) (by rw [Int.toNat_natCast, List.getElem?_map, tabL_get hpl]; rfl)]
      rw [wo_ixL (d := .int (B p t.2.1)) (by omega) (by rw [Int.toNat_natCast]; exact rI_get hj2)]
      simp [fPl]
    · have e1 : (mems t.2.2 ps).map (fPl B t.2.1 ∘ nD) = ((mems t.2.2 ps).map fun p => B p t.2.1).map D.int := by
        rw [List.map_map]
        apply List.map_congr_left
        intro p _
        simp [fPl, nD]
      rw [e1, wo_sum]
      rw [wo_mul]
      refine ⟨term_log hb hp ht2, ?_⟩
      rw [wo_add]
      refine ⟨.val (tsD t), .val (nD (ix ac t.2.1)), a7, ?_, Pl_val, Pl_val, h7⟩
      rw [take_snoc ht, vsum_snoc]
      simp [tsD, vterm, Cn.d]
  · subst he
    rw [List.length_map, List.take_length]
    simp
end
end Mir
/-! Flow times contribution is the value. -/
namespace Mir
open PySem L2
def txO (ks : List Kin) (d : Dl) : Tx := ⟨kz ks d.nm, d.a, d.b, d.x⟩
theorem bk_bal {ks : List Kin} {ds : List Dl} (p : Nat) (s : Str) : bk (ds.map (txO ks)) p s = bal ks ds p s := by
  unfold bk bal
  rw [List.map_map]
  refine sum_congr fun d _ => ?_
  have e1 : (kz ks d.nm).giv = gvE ks d.nm := by unfold kz gvE; cases kof ks d.nm <;> rfl
  have e2 : (kz ks d.nm).tak = tkE ks d.nm := by unfold kz tkE; cases kof ks d.nm <;> rfl
  simp [txO, ctr, e1, e2]
theorem sum_mul_r {α : Type} {f : α → Int} {c : Int} (xs : List α) : (xs.map fun x => f x * c).sum = (xs.map f).sum * c := by
  have := sum_map_mul (c := c) (f := f) xs
  rw [Int.mul_comm, ← this]
  exact sum_congr fun x _ => Int.mul_comm ..
theorem pick_mem {α : Type} [DecidableEq α] {f : α → Int} {x : α} : ∀ {xs : List α}, xs.Nodup → x ∈ xs → (xs.map fun u => if x = u then f u else 0).sum = f x
  | [], _, h => by cases h
  | y :: xs, hn, h => by
    rw [List.nodup_cons] at hn
    rw [List.map_cons, List.sum_cons]
    by_cases e : x = y
    · subst e
      rw [if_pos rfl, sum_congr (g := fun _ => 0) fun u hu => by rw [if_neg fun z : x = u => hn.1 (by rw [z]; exact hu)], sum_map_zero]
      omega
    · rw [if_neg e]
      rcases List.mem_cons.mp h with h | h
      · exact absurd h e
      · rw [pick_mem hn.2 h]; omega
theorem flow_sum {us : List Un} {G : Nat → Nat} {ds : List Dl} {cf : Un → Int} (hn : us.Nodup) (hm : ∀ d ∈ ds, (d.nm, G d.a, G d.b) ∈ us) : (us.map fun u => flw G ds u * cf u).sum = (ds.map fun d => d.x * cf (d.nm, G d.a, G d.b)).sum := by
  have e1 : ∀ u ∈ us, flw G ds u * cf u = (ds.map fun d => if (d.nm, G d.a, G d.b) = u then d.x * cf u else 0).sum := fun u _ => by
    unfold flw
    rw [← sum_mul_r]
    refine sum_congr fun d _ => ?_
    split <;> simp
  rw [sum_congr e1, sum_swap fun (u : Un) (d : Dl) => if (d.nm, G d.a, G d.b) = u then d.x * cf u else 0]
  refine sum_congr fun d hd => ?_
  exact pick_mem (f := fun u => d.x * cf u) hn (hm d hd)
theorem filt_sum {α : Type} {p : α → Bool} {f : α → Int} : ∀ xs : List α, ((xs.filter p).map f).sum = (xs.map fun x => if p x = true then f x else 0).sum
  | [] => rfl
  | x :: xs => by
    rw [List.filter_cons, List.map_cons, List.sum_cons, ← filt_sum xs]
    by_cases h : p x = true
    · rw [if_pos h, if_pos h, List.map_cons, List.sum_cons]
    · rw [if_neg h, if_neg h]; omega
/-- the contribution of a unit -/
def cfN (ss ac : List Str) (N : Nat) (ks : List Kin) (π : Option Nat) (c : Cn) (g : Option Nat) (u : Un) : Int := con ac (wt ss N π c g) (kz ks u.1) u.2.1 u.2.2
theorem vals_T {ss : List Str} {ps : List (List Str)} {B : Nat → Str → Int} {ts : List (Int × Str × Sx)} (hts : ∀ t ∈ ts, t.2.2.ok ss) : ((List.range ps.length).map fun p => valT ss B (prf ss ps) ts p).sum = vsum ps B ts := by
  unfold valT vsum
  have e1 : ∀ p ∈ List.range ps.length, (((ts.filter fun t => bl ss (prf ss ps p) t.2.2).map fun t => t.1 * B p t.2.1)).sum = (ts.map fun t => if t.2.2.mem (ps.getD p []) = true then t.1 * B p t.2.1 else 0).sum := fun p _ => by
    rw [filt_sum]
    refine sum_congr fun t ht => ?_
    have := bl_pf (ss := ss) (p := ps.getD p []) t.2.2 (hts t ht)
    unfold prf
    rw [this]
  rw [sum_congr e1, sum_swap fun (p : Nat) (t : Int × Str × Sx) => if t.2.2.mem (ps.getD p []) = true then t.1 * B p t.2.1 else 0]
  refine sum_congr fun t _ => ?_
  unfold vterm mems
  rw [filt_sum, ← sum_map_mul]
  refine sum_congr fun p _ => ?_
  split <;> simp
theorem flow_value {ss ac : List Str} {ks ks' : List Kin} {ps : List (List Str)} {ds : List Dl} {ts : List (Int × Str × Sx)} {r : Bool} (hacn : ac.Nodup) (hkn : (ks'.map Kin.nm).Nodup) (hg : ∀ k ∈ ks', k.ok ss ac) (hd : ∀ d ∈ ds, DlOk ks' ps d) (hb : ∀ p s, bal ks' ds p s = bal ks ds p s) (hts : ∀ t ∈ ts, t.2.1 ∈ ac ∧ t.2.2.ok ss) :
    ((units ss (2 ^ ss.length) none ks').map fun u => flw (prf ss ps) ds u * cfN ss ac (2 ^ ss.length) ks' none (.sum ts r) none u).sum = vsum ps (bal ks ds) ts := by
  rw [flow_sum (units_nodup hkn) fun d h => by
    have := unit_in (lone := none) hg (hd d h)
    exact this]
  have e1 : (ds.map fun d => d.x * cfN ss ac (2 ^ ss.length) ks' none (.sum ts r) none (d.nm, prf ss ps d.a, prf ss ps d.b)).sum = ((ds.map (txO ks')).map fun t => t.x * con ac (wt ss (2 ^ ss.length) none (.sum ts r) none) t.k (prf ss ps t.a) (prf ss ps t.b)).sum := by
    rw [List.map_map]
    rfl
  rw [e1, post_id (n := ps.length) (wt ss (2 ^ ss.length) none (.sum ts r) none) (prf ss ps) fun t ht => by
    obtain ⟨d, hdm, rfl⟩ := List.mem_map.mp ht
    exact ⟨(hd d hdm).la, (hd d hdm).lb⟩]
  have e2 := tot_sum (ss := ss) (ac := ac) (N := 2 ^ ss.length) (n := ps.length) (prof := prf ss ps) (B := bk (ds.map (txO ks'))) hacn prf_lt none (ts := ts) (r := r) (fun t ht => (hts t ht).1) none
  unfold tot at e2
  have e3 : (pof (prf ss ps) none) = none := rfl
  have e4 : gof (2 ^ ss.length) (prf ss ps) none = prf ss ps := rfl
  rw [e3, e4] at e2
  rw [e2, vals_T fun t ht => (hts t ht).2]
  unfold vsum
  refine sum_congr fun t _ => ?_
  unfold vterm
  congr 2
  apply List.map_congr_left
  intro p _
  rw [bk_bal, hb]
theorem flw_nn {G : Nat → Nat} {ds : List Dl} (h : ∀ d ∈ ds, 1 ≤ d.x) (u : Un) : 0 ≤ flw G ds u := by
  unfold flw
  refine sum_nonneg fun x hx => ?_
  obtain ⟨d, hd, rfl⟩ := List.mem_map.mp hx
  have := h d hd
  split <;> omega
theorem flow_nn {us : List Un} {G : Nat → Nat} {ds : List Dl} {cf : Un → Int} (h : ∀ d ∈ ds, 1 ≤ d.x) (hc : ∀ u ∈ us, 0 ≤ cf u) : 0 ≤ (us.map fun u => flw G ds u * cf u).sum :=
  sum_nonneg fun x hx => by
    obtain ⟨u, hu, rfl⟩ := List.mem_map.mp hx
    exact Int.mul_nonneg (flw_nn h u) (hc u hu)
/-! told -/
def cuD (cf : Un → Int) (u : Un) : D := .tup [.str u.1, nD u.2.1, nD u.2.2, .int (cf u)]
def fZc : D → D
  | .tup [.tup [a, b, c], x] => .tup [a, b, c, x]
  | _ => .non
theorem units_rng {ss : List Str} {N : Nat} {π : Option Nat} {ks : List Kin} : ∀ u ∈ units ss N π ks, (∃ k ∈ ks, k.nm = u.1) ∧ u.2.1 < gn N π ∧ u.2.2 < gn N π := fun u hu => by
  obtain ⟨k, hk, e, h1, h2, _⟩ := units_mem.mp hu
  exact ⟨⟨k, hk, e.symm⟩, (grp_mem.mp h1).1, (grp_mem.mp h2).1⟩
theorem contributions_ok {ss ac : List Str} {m3 m4 : D} {ks : List Kin} {ts : List (Int × Str × Sx)} {r : Bool} (hl : ss.length ≤ 3) (hac : ac.length ≤ 4) (hacn : ac.Nodup) (hk : ks.length ≤ 6) (hg : ∀ k ∈ ks, k.ok ss ac) (hc : (Cn.sum ts r).gd ss ac 10) :
    Wo (m_contributions [md ss (tS ac) (.tup (ks.map Kin.d)) m3 m4, (Cn.sum ts r).d]) fun d => d = .tup ((units ss (2 ^ ss.length) none ks).map (cuD (cfN ss ac (2 ^ ss.length) ks none (.sum ts r) none))) := by
  have hpw := pow_le hl
  unfold m_contributions
  refine w_run0 rfl ?_
  unfold m_contributions_B
  refine w_seq ?_
  simp [Cn.d]
  refine w_seq ?_
  simp
  refine (units_ok (π := none) (b := 10) hl (by omega) hk (fun k hk' => (hg k hk').gd)).mono fun d hd => ?_
  subst hd
  refine w_seq ?_
  simp
  refine (weights_ok (π := none) (g := none) (c := .sum ts r) (m2 := .tup (ks.map Kin.d)) (m3 := m3) (m4 := m4) hl (by decide : 10 ≤ 40) hac hacn hc).mono fun d hd => ?_
  subst hd
  have hul : (units ss (2 ^ ss.length) none ks).length ≤ 6 * 81 := Nat.le_trans (units_len hpw _) (Nat.mul_le_mul_right _ hk)
  refine (crow_ok (ss := ss) (ac := ac) (ks := ks) (G := 2 ^ ss.length) (b := 10) (w := wt ss (2 ^ ss.length) none (.sum ts r) none) (sign := 1) hac (by omega) (fun k hk' => (hg k hk').gd) (by omega) (fun i _ s _ => wt_small hc s) (by decide) (by omega) (fun u hu => units_rng u hu)).mono fun d hd => ?_
  subst hd
  obtain ⟨us, hus⟩ : ∃ us, us = units ss (2 ^ ss.length) none ks := ⟨_, rfl⟩
  rw [← hus] at hul ⊢
  simp
  refine wlc_pureE fZc ?_
  simp [backE]
  have hz := zip_rows (f := unD) (g := D.int ∘ fun u : Un => con ac (wt ss (2 ^ ss.length) none (.sum ts r) none) (kz ks u.1) u.2.1 u.2.2) us
  rw [hz]
  refine ⟨by rw [List.length_map]; omega, fun d hd => ?_, ?_⟩
  · obtain ⟨u, hu, rfl⟩ := List.mem_map.mp hd
    simp [unD, fZc]
  · rw [List.map_map]
    apply List.map_congr_left
    intro u _
    simp [fZc, unD, cuD, cfN]
theorem cf_small {ss ac : List Str} {N : Nat} {ks : List Kin} {π : Option Nat} {c : Cn} {g : Option Nat} (hac : ac.length ≤ 4) (hg : ∀ k ∈ ks, k.ok ss ac) (hc : c.gd ss ac 10) {u : Un} (hu : ∃ k ∈ ks, k.nm = u.1) : (cfN ss ac N ks π c g u).natAbs ≤ 2 ^ 60 := by
  obtain ⟨k, hk, hkf, _⟩ := kof_some hu
  have hkk := hg k hk
  have hz : kz ks u.1 = k := by unfold kz; rw [hkf]; rfl
  unfold cfN con
  rw [hz]
  have b1 := wth_small hac (fun s _ => wt_small (N := N) (π := π) (g := g) (i := u.2.1) hc s) hkk.g
  have b2 := wth_small hac (fun s _ => wt_small (N := N) (π := π) (g := g) (i := u.2.2) hc s) hkk.t
  have h := Int.natAbs_add_le (wth ac (wt ss N π c g u.2.1) k.giv) (wth ac (wt ss N π c g u.2.2) k.tak)
  omega
theorem flw_small {G : Nat → Nat} {ds : List Dl} (hl : ds.length ≤ 1000) (h : ∀ d ∈ ds, d.x.natAbs < 2 ^ 300) (u : Un) : (flw G ds u).natAbs ≤ 2 ^ 310 := by
  unfold flw
  have h1 := sum_abs (xs := ds.map fun d => if (d.nm, G d.a, G d.b) = u then d.x else 0) (B := 2 ^ 300) fun x hx => by
    obtain ⟨d, hd, rfl⟩ := List.mem_map.mp hx
    split
    · exact Nat.le_of_lt (h d hd)
    · simp
  rw [List.length_map] at h1
  refine Nat.le_trans h1 (Nat.le_trans (Nat.mul_le_mul_right _ (show ds.length ≤ 2 ^ 10 by omega)) ?_)
  rw [← Nat.pow_add]
  exact Nat.le_refl _
def fTt (us : List Un) (f cf : Un → Int) : D → D
  | .int k => match us[k.toNat]? with
    | some u => .int (f u * cf u)
    | none => .non
  | _ => .non
theorem total_ok {us : List Un} {f cf : Un → Int} (hl : us.length ≤ 1000) (h1 : ∀ u ∈ us, (f u).natAbs ≤ 2 ^ 310) (h2 : ∀ u ∈ us, (cf u).natAbs ≤ 2 ^ 60) : Wo (m__law_total [tI (us.map f), .tup (us.map (cuD cf))]) fun r => r = .int (us.map fun u => f u * cf u).sum := by
  unfold m__law_total
  refine w_run0 rfl ?_
  unfold m__law_total_B
  simp
  refine wlc_pureE (fTt us f cf) ?_
  simp [backE, tI]
  refine ⟨by omega, ?_⟩
  rw [rngL0]
  refine ⟨by simp; omega, fun d hd => ?_, ?_⟩
  · obtain ⟨k, hk, rfl⟩ := List.mem_map.mp hd
    rw [List.mem_range] at hk
    have hu := List.getElem?_eq_getElem hk
    try simp
    rw [wo_ixT (d := .int (f us[k])) (by omega) (by rw [Int.toNat_natCast]; simp [hk])]
    rw [wo_ixT (d := cuD cf us[k]) (by omega) (by rw [Int.toNat_natCast]; simp [hk])]
    unfold cuD
    rw [ix3, wo_mul]
    refine ⟨?_, ?_⟩
    · have a1 := plog (h1 _ (List.getElem_mem hk)) (by decide)
      have a2 := natlog (Nat.lt_of_le_of_lt (h2 _ (List.getElem_mem hk)) (show 2 ^ 60 < 2 ^ 61 by decide))
      omega
    · simp [fTt, hk]
  · have e1 : ((List.range us.length).map nD).map (fTt us f cf) = (us.map fun u => f u * cf u).map D.int := by
      apply List.ext_getElem?
      intro i
      by_cases h : i < us.length
      · simp [h, fTt]
      · rw [List.getElem?_eq_none (by simpa using h), List.getElem?_eq_none (by simpa using h)]
    rw [e1, wo_sum]
end Mir
/-! The model with a type that undoes the first. -/
namespace Mir
open PySem L2
theorem nodup_le : ∀ {l l' : List Str}, l.Nodup → (∀ x ∈ l, x ∈ l') → l.length ≤ l'.length := by
  intro l
  induction l with
  | nil => intro l' _ _; simp
  | cons a l ih =>
    intro l' hn hs
    rw [List.nodup_cons] at hn
    have ha := hs a (by simp)
    have h := ih (l' := l'.erase a) hn.2 fun x hx => by
      have hne : x ≠ a := fun e => hn.1 (e ▸ hx)
      exact (List.mem_erase_of_ne hne).mpr (hs x (by simp [hx]))
    rw [List.length_erase_of_mem ha] at h
    have : 0 < l'.length := List.length_pos_of_mem ha
    rw [List.length_cons]; omega
def fNm : D → D
  | .tup (.str s :: _) => .str s
  | _ => .non
theorem taken_ok {m0 m1 : D} {ks : List Kin} (hk : ks.length ≤ 100) : Wo (m__law_taken [.tup [m0, m1, .tup (ks.map Kin.d), .tup [], .tup []]]) fun r => r = .lst ((ks.map Kin.nm).map D.str) := by
  unfold m__law_taken
  refine w_run0 rfl ?_
  unfold m__law_taken_B
  simp
  refine wlc_pureE fNm ?_
  simp [backE, ixt4]
  refine ⟨by omega, fun k _ => ?_, fun k _ => ?_⟩
  · simp [Kin.d, fNm]
  · simp [Kin.d, fNm]
structure Cnt (ss ac lb : List Str) (ks ks' : List Kin) : Prop where
  len : ks'.length ≤ ks.length + 1
  ok : ∀ k ∈ ks', k.ok ss ac
  nd : (ks'.map Kin.nm).Nodup
  mem : ∀ k ∈ ks', k.nm ∈ lb
  sub : ∀ k ∈ ks, k ∈ ks'
  kof : ∀ nm, (∃ k ∈ ks, k.nm = nm) → Mir.kof ks' nm = Mir.kof ks nm
theorem cut2 {a b c d e : D} : cutD [a, b, c, d, e] none (some 2) = [a, b] := by
  have := cutD_take (ds := [a, b, c, d, e]) (k := 2) (by simp)
  simpa using this
theorem cut3 {a b c d e : D} : cutD [a, b, c, d, e] (some 3) none = [d, e] := by
  have := cutD_drop (ds := [a, b, c, d, e]) (k := 3) (by simp)
  simpa using this
def fNot (ns : List Str) : D → Bool
  | .str s => !ns.contains s
  | _ => false
theorem countered_ok {ss ac lb : List Str} {K : Nat} {ks : List Kin} (hK : K ≤ 6) (hlb : 18 ≤ lb.length) (hlb2 : lb.length ≤ 25) (hln : lb.Nodup) (M : MdOk ss ac lb K ks) : Wo (m__law_countered [.tup [tS ss, tS ac, .lst (lb.map D.str)], mdD ss ac ks]) fun r => ∃ ks', r = mdD ss ac ks' ∧ Cnt ss ac lb ks ks' := by
  have hkl := M.len
  unfold m__law_countered
  refine w_run0 rfl ?_
  unfold m__law_countered_B
  refine w_seq ?_
  simp [mdD]
  refine ⟨fun he => ?_, fun hne => ?_⟩
  · subst he
    exact ⟨[], rfl, ⟨by simp, fun k hk => (by cases hk), List.nodup_nil, fun k hk => (by cases hk), fun k hk => hk, fun nm _ => rfl⟩⟩
  · refine w_seq ?_
    simp
    refine wlc_filtE (fNot (ks.map Kin.nm)) id ?_
    simp [backE]
    refine ⟨by omega, fun s hs => ?_, ?_⟩
    · refine (taken_ok (by omega)).mono fun r hr => ?_
      subst hr
      rw [wo_niL]
      simp [fNot]
    · have e1 : (lb.map D.str).filter (fNot (ks.map Kin.nm)) = (lb.filter fun s => !(ks.map Kin.nm).contains s).map D.str := by
        rw [List.filter_map]; rfl
      rw [e1]
      obtain ⟨fr, hfr⟩ : ∃ fr, fr = lb.filter fun s => !(ks.map Kin.nm).contains s := ⟨_, rfl⟩
      rw [← hfr]
      have hne2 : fr ≠ [] := fun e => by
        have hall : ∀ s ∈ lb, s ∈ ks.map Kin.nm := fun s hs => by
          by_cases h : (ks.map Kin.nm).contains s = true
          · simpa using h
          · have : s ∈ fr := by rw [hfr, List.mem_filter]; exact ⟨hs, by simpa using h⟩
            rw [e] at this; cases this
        have := nodup_le hln hall
        rw [List.length_map] at this
        omega
      obtain ⟨lab, rest, hfe⟩ : ∃ a t, fr = a :: t := by
        cases h : fr with
        | nil => exact absurd h hne2
        | cons a t => exact ⟨a, t, rfl⟩
      have hlab : lab ∈ lb ∧ lab ∉ ks.map Kin.nm := by
        have : lab ∈ fr := by rw [hfe]; simp
        rw [hfr, List.mem_filter] at this
        exact ⟨this.1, by simpa using this.2⟩
      rw [hfe]
      simp
      obtain ⟨k0, kr, hke⟩ : ∃ a t, ks = a :: t := by
        cases h : ks with
        | nil => exact absurd h hne
        | cons a t => exact ⟨a, t, rfl⟩
      have hk0 := M.ok k0 (by rw [hke]; simp)
      have hg4 := hk0.g.len
      have ht4 := hk0.t.len
      refine w_seq ?_
      simp
      rw [show (ks.map Kin.d) = k0.d :: kr.map Kin.d by rw [hke]; rfl]
      simp
      refine w_seq ?_
      simp [Kin.d]
      refine (neg_ok (es := k0.giv) (by omega)).mono fun r hr => ?_
      subst hr
      rw [ixt4]
      refine (neg_ok (es := k0.tak) (by omega)).mono fun r hr => ?_
      subst hr
      simp [cut2, cut3]
      refine ⟨by have : ks.length = kr.length + 1 := by rw [hke]; rfl
                 omega, ks ++ [⟨lab, k0.px, negE k0.giv, k0.py, negE k0.tak⟩], by rw [hke]; simp [Kin.d], ⟨by simp, fun k hk => ?_, ?_, fun k hk => ?_, fun k hk => by simp [hk], fun nm hnm => ?_⟩⟩
      · rcases List.mem_append.mp hk with hk | hk
        · exact M.ok k hk
        · simp at hk; subst hk
          exact ⟨hk0.okx, hk0.dpx, hk0.oky, hk0.dpy, negE_ok hk0.g, negE_ok hk0.t⟩
      · rw [List.map_append, List.nodup_append]
        refine ⟨M.nd, by simp, fun a ha b hb e => ?_⟩
        simp at hb
        subst hb
        exact hlab.2 (e ▸ ha)
      · rcases List.mem_append.mp hk with hk | hk
        · exact M.mem k hk
        · simp at hk; subst hk; exact hlab.1
      · rw [kof_snoc, if_neg]
        intro e
        obtain ⟨k, hk, hkn⟩ := hnm
        exact hlab.2 (List.mem_map.mpr ⟨k, hk, hkn.trans e.symm⟩)
theorem Cnt.bal {ss ac lb : List Str} {ks ks' : List Kin} (C : Cnt ss ac lb ks ks') {ds : List Dl} (h : ∀ d ∈ ds, ∃ k ∈ ks, k.nm = d.nm) (p : Nat) (s : Str) : Mir.bal ks' ds p s = Mir.bal ks ds p s := by
  unfold Mir.bal
  refine sum_congr fun d hd => ?_
  unfold ctr gvE tkE
  rw [C.kof d.nm (h d hd)]
theorem Cnt.dl {ss ac lb : List Str} {ks ks' : List Kin} (C : Cnt ss ac lb ks ks') {ps : List (List Str)} {d : Dl} (h : DlOk ks ps d) : DlOk ks' ps d := by
  obtain ⟨k, hk, h1⟩ := h.kin
  exact ⟨⟨k, C.sub k hk, h1⟩, h.la, h.lb, h.ne, h.x1, h.x2⟩
theorem un_tr {us : List Un} (h : us.length ≤ 100000) : D.tr 2 (.tup (us.map unD)) := by
  refine tr_tup 1 (by simpa using h) fun d hd => ?_
  obtain ⟨u, _, rfl⟩ := List.mem_map.mp hd
  exact tr_tup 0 (by simp) fun d hd => by
    simp at hd
    rcases hd with rfl | rfl | rfl
    · exact tr_str
    · exact tr_int
    · exact tr_int
theorem tI_tr {xs : List Int} (h : xs.length ≤ 100000) : D.tr 1 (tI xs) := by
  refine tr_tup 0 (by simpa using h) fun d hd => ?_
  obtain ⟨u, _, rfl⟩ := List.mem_map.mp hd
  exact tr_int
end Mir
/-! k38: ledgers of one unit. -/
namespace Mir
open PySem L2
variable {ss ac lb : List Str} {ks : List Kin}
def J_ob (v0 v1 v2 v3 : Sl) (i : Nat) (e : Env) : Prop := ∃ (z : Int) (a5 a6 : Sl), e = [v0, v1, v2, v3, .val (.int z), a5, a6] ∧ Pl a5 ∧ Pl a6
theorem one_dl {u : Un} (hu : u ∈ units ss (2 ^ ss.length) none ks) (hn : ss.Nodup) (hg : ∀ k ∈ ks, k.ok ss ac) : DlOk ks [bitS ss u.2.1, bitS ss u.2.2] ⟨u.1, 0, 1, 1⟩ := by
  obtain ⟨k, hk, e, h1, h2, _⟩ := units_mem.mp hu
  have hkk := hg k hk
  obtain ⟨h1a, h1b⟩ := grp_mem.mp h1
  obtain ⟨h2a, h2b⟩ := grp_mem.mp h2
  have g1 : gp (2 ^ ss.length) none u.2.1 = u.2.1 := if_pos h1a
  have g2 : gp (2 ^ ss.length) none u.2.2 = u.2.2 := if_pos h2a
  rw [g1] at h1b
  rw [g2] at h2b
  refine ⟨⟨k, hk, e.symm, ?_, ?_⟩, by simp, by simp, by simp, Int.le_refl 1, show (1 : Int) < 2 ^ 200 by decide⟩
  · show k.px.mem (bitS ss u.2.1) = true
    rw [Sx.mem_bit hn hkk.okx h1a]; exact h1b
  · show k.py.mem (bitS ss u.2.2) = true
    rw [Sx.mem_bit hn hkk.oky h2a]; exact h2b
theorem one_value {u : Un} {ts : List (Int × Str × Sx)} {r : Bool} (hu : u ∈ units ss (2 ^ ss.length) none ks) (hn : ss.Nodup) (hacn : ac.Nodup) (hkn : (ks.map Kin.nm).Nodup) (hg : ∀ k ∈ ks, k.ok ss ac) (hts : ∀ t ∈ ts, t.2.1 ∈ ac ∧ t.2.2.ok ss) :
    vsum [bitS ss u.2.1, bitS ss u.2.2] (bal ks [⟨u.1, 0, 1, 1⟩]) ts = cfN ss ac (2 ^ ss.length) ks none (.sum ts r) none u := by
  have hdl := one_dl hu hn hg
  have hd : ∀ d ∈ [(⟨u.1, 0, 1, 1⟩ : Dl)], DlOk ks [bitS ss u.2.1, bitS ss u.2.2] d := fun d h => by
    rw [List.mem_singleton] at h; subst h; exact hdl
  have h1 := flow_value (ks := ks) (ks' := ks) (ps := [bitS ss u.2.1, bitS ss u.2.2]) (ds := [⟨u.1, 0, 1, 1⟩]) (r := r) hacn hkn hg hd (fun _ _ => rfl) hts
  rw [← h1]
  rw [flow_sum (units_nodup hkn) fun d h => by
    have := unit_in (lone := none) hg (hd d h)
    exact this]
  obtain ⟨_, hr1, hr2⟩ := units_rng u hu
  have e1 : prf ss [bitS ss u.2.1, bitS ss u.2.2] 0 = u.2.1 := pf_bitS hn hr1
  have e2 : prf ss [bitS ss u.2.1, bitS ss u.2.2] 1 = u.2.2 := pf_bitS hn hr2
  simp [e1, e2]
theorem one_by_one_ok {m3 m4 : D} {ts : List (Int × Str × Sx)} {r : Bool} (hm3 : m3 = .tup []) (hm4 : m4 = .tup []) (hl : ss.length ≤ 3) (hn : ss.Nodup) (hac : ac.length ≤ 4) (hacn : ac.Nodup) (hk : ks.length ≤ 6) (hkn : (ks.map Kin.nm).Nodup) (hg : ∀ k ∈ ks, k.ok ss ac) (hts : ∀ t ∈ ts, t.2.1 ∈ ac ∧ t.1.natAbs < 2 ^ 20 ∧ t.2.2.gd ss 10) :
    Wo (m__law_one_by_one [mdD ss ac ks, .tup ((units ss (2 ^ ss.length) none ks).map (cuD (cfN ss ac (2 ^ ss.length) ks none (.sum ts r) none))), (Cn.sum ts r).d]) fun d => d = .bl true := by
  have hpw := pow_le hl
  have hts' : ∀ t ∈ ts, t.2.1 ∈ ac ∧ t.2.2.ok ss := fun t h => ⟨(hts t h).1, (hts t h).2.2.1⟩
  unfold m__law_one_by_one
  refine w_run0 rfl ?_
  unfold m__law_one_by_one_B
  refine w_seq ?_
  simp [mdD]
  refine (sets_ok hl).mono fun d hd => ?_
  subst hd
  refine w_seq ?_
  simp
  refine w_seq ?_
  refine w_for.mpr ?_
  simp
  obtain ⟨us, hus⟩ : ∃ us, us = units ss (2 ^ ss.length) none ks := ⟨_, rfl⟩
  obtain ⟨cf, hcf⟩ : ∃ cf, cf = cfN ss ac (2 ^ ss.length) ks none (.sum ts r) none := ⟨_, rfl⟩
  rw [← hus, ← hcf]
  refine wfor_inv (J_ob (.val (mdD ss ac ks)) (.val (.tup (us.map (cuD cf)))) (.val (Cn.sum ts r).d) (.val (.lst ((setsL ss).map tS)))) ⟨6, .un, .un, rfl, Pl_un, Pl_un⟩ (fun i d0 e hd0 ⟨z, a5, a6, he, h5, h6⟩ => ?_) (fun e ⟨z, a5, a6, he, h5, h6⟩ => ?_)
  · subst he
    rw [List.getElem?_map] at hd0
    obtain ⟨u, hu, rfl⟩ := Option.map_eq_some_iff.mp hd0
    have hum : u ∈ units ss (2 ^ ss.length) none ks := by rw [← hus]; exact List.mem_of_getElem? hu
    obtain ⟨hk0, hr1, hr2⟩ := units_rng u hum
    have hr1' : u.2.1 < 2 ^ ss.length := hr1
    have hr2' : u.2.2 < 2 ^ ss.length := hr2
    have hdl := one_dl hum hn hg
    rw [wo_gN]
    simp [setV_pl, h5, cuD]
    unfold m__law_one_by_one_1
    simp
    refine ⟨fun hneg => ⟨fun hz => ?_, fun _ => ⟨z, .val (cuD cf u), a6, rfl, Pl_val, h6⟩⟩, fun _ => ⟨z, .val (cuD cf u), a6, rfl, Pl_val, h6⟩⟩
    refine w_seq ?_
    simp
    refine w_seq ?_
    simp
    refine wo_ixE (enc := tS) (by omega) (by rw [setsL_len]; omega) fun p hp => ?_
    rw [Int.toNat_natCast, setsL_get ss _ hr1'] at hp
    cases hp
    refine wo_ixE (enc := tS) (by omega) (by rw [setsL_len]; omega) fun p hp => ?_
    rw [Int.toNat_natCast, setsL_get ss _ hr2'] at hp
    cases hp
    simp [setV_pl, h6]
    have hv := value_ok (ps := [bitS ss u.2.1, bitS ss u.2.2]) (ds := [⟨u.1, 0, 1, 1⟩]) (m3 := .tup []) (m4 := .tup []) (r := r) hl hac (by decide : 10 ≤ 40) (by omega) hg (by simp) (by simp) (fun d hd => by
      rw [List.mem_singleton] at hd; subst hd; exact hdl.g) hts
    rw [one_value hum hn hacn hkn hg hts' (r := r), ← hcf] at hv
    have e9 : D.tup [D.tup ([bitS ss u.2.1, bitS ss u.2.2].map tS), D.tup ([(⟨u.1, 0, 1, 1⟩ : Dl)].map Dl.d)] = D.tup [D.tup [tS (bitS ss u.2.1), tS (bitS ss u.2.2)], D.tup [D.tup [D.str u.1, D.int 0, D.int 1, D.int 1]]] := by simp [Dl.d]
    rw [e9] at hv
    refine hv.mono fun d hd => ?_
    subst hd
    refine (same_ok 0 40 _ (by decide) tr_int).mono fun d hd => ?_
    subst hd
    simp
    exact ⟨_, .val (cuD cf u), _, rfl, Pl_val, Pl_val⟩
  · subst he
    simp
end Mir
/-! k38: the law. -/
namespace Mir
open PySem L2
variable [Hs]
def fCut : D → D
  | .tup (a :: b :: c :: _) => .tup [a, b, c]
  | _ => .non
theorem cutN3 {a b c d : D} : cutD [a, b, c, d] none (some 3) = [a, b, c] := by
  have := cutD_take (ds := [a, b, c, d]) (k := 3) (by simp)
  simpa using this
def pNeg : D → Bool
  | .tup [_, _, _, .int x] => decide (x < 0)
  | _ => false
def J_t (ns : List Int) (n : Nat) (E E2 : List Sl) (ss ac : List Str) (i : Nat) (e : Env) : Prop := ∃ (tp : D) (ts : List (Int × Str × Sx)) (a13 a14 : Sl), e = .val (.scr ns) :: .own false tp :: (E ++ .own false (.lst (ts.map tsD)) :: a13 :: a14 :: E2) ∧ Tape (n + 2000000 * i) tp ∧ ts.length = i ∧ (∀ t ∈ ts, t.2.1 ∈ ac ∧ t.1.natAbs < 2 ^ 20 ∧ t.2.2.gd ss 10) ∧ Pl a13 ∧ Pl a14
def J_q (ns : List Int) (n : Nat) (E : List Sl) (i : Nat) (e : Env) : Prop := ∃ (tp : D) (a11 a12 a13 a14 a15 a16 a17 a18 : Sl), e = .val (.scr ns) :: .own false tp :: (E ++ [a11, a12, a13, a14, a15, a16, a17, a18]) ∧ Tape (n + 10000000 * i) tp ∧ Pl a11 ∧ (Pl a12 ∨ ∃ d, a12 = .own false d) ∧ Pl a13 ∧ Pl a14 ∧ Pl a15 ∧ Pl a16 ∧ Pl a17 ∧ Pl a18
theorem both {A B X : Prop} {P1 P2 P3 : D → Str → Nat → Nat → Prop} (h1 : A → B) (h2 : X) : (A → B ∧ (B → X)) ∧ ∀ (x : D) (a : Str) (b c : Nat), P1 x a b c → P2 x a b c → P3 x a b c → X :=
  ⟨fun a => ⟨h1 a, fun _ => h2⟩, fun _ _ _ _ _ _ _ => h2⟩
theorem setO_any {e : Env} {a : Sl} {d : D} {R : Env → Prop} (h : Pl a ∨ ∃ d, a = .own false d) : Wo (setO 0 d (a :: e)) R ↔ R (.own false d :: e) := by
  rcases h with h | ⟨x, rfl⟩
  · exact setO_pl h
  · with_unfolding_all exact Iff.rfl
theorem pure_law (ns : List Int) (h : ns.length ≤ 63) : m_law [.scr ns] = some (.bl true) := by
  suffices hw : Wo (m_law [.scr ns]) fun r => r = .bl true by
    obtain ⟨r, h1, h2⟩ := hw.ex
    rw [h1, h2]
  unfold m_law
  refine w_run0 rfl ?_
  unfold m_law_B
  refine w_seq ?_
  simp
  refine tape_ok.mono fun tp0 ht0 => ?_
  refine w_seq ?_
  simp
  refine (lists_ok (A := 3) (by decide) (by decide) (by decide) ht0).mono fun r tp1 ⟨ht1, ss, ac, lb, hr, hss, hssn, hac1, hac3, hacn, hlbn, hlb1, hlb2, hsso, hsao, hslo⟩ => ?_
  subst hr
  refine w_seq ?_
  simp
  refine (draw_ok (by omega) ht1 (by decide)).mono fun r tp2 ⟨ht2, w, hw, hw0, hw1⟩ => ?_
  subst hw
  refine (model_ok (K := 3) (M := 1) (w := w) (by omega) (by decide) hss (by omega) hacn hlb1 hlb2 hlbn (by omega) ht2).mono fun r tp3 ⟨ht3, ks, hr, hM⟩ => ?_
  subst hr
  have hkl := hM.len
  have hkso : ∀ k ∈ ks, PyData.strOk k.nm = true := fun k hk => hslo _ (hM.mem k hk)
  refine w_seq ?_
  simp
  refine (crowd_ok (by decide) (by decide) (by decide) (by omega) ht3).mono fun r tp4 ⟨ht4, c, hr, hc⟩ => ?_
  subst hr
  refine (people_ok hss hssn (by omega) (by omega) ht4).mono fun r tp5 ⟨ht5, ps, hr, hpl, hps⟩ => ?_
  subst hr
  refine w_seq ?_
  simp
  refine (draw_ok (by omega) ht5 (by decide)).mono fun r tp6 ⟨ht6, kd, hk, hk0, hk1⟩ => ?_
  subst hk
  refine wo_ixAny hk0 (by simp; omega) fun md hmd => ?_
  have hmd' : ∃ many : Int, md = .int many ∧ 0 ≤ many ∧ many ≤ 20 := by
    simp at hmd
    rcases hmd with rfl | rfl | rfl <;> exact ⟨_, rfl, by omega, by omega⟩
  obtain ⟨many, rfl, hm0, hm20⟩ := hmd'
  refine (deals_ok (ks := ks) (ps := ps) rfl (by omega) hM.ok (by omega) hm0 hm20 (by omega) ht6).mono fun r tp7 ⟨ht7, ds, hr, hdl, hds⟩ => ?_
  subst hr
  have hG : ∀ d ∈ ds, DlG ks ps.length d := fun d hd => (hds d hd).g
  have hx1 : ∀ d ∈ ds, 1 ≤ d.x := fun d hd => (hds d hd).x1
  refine w_seq ?_
  simp
  refine w_seq ?_
  simp
  refine (posted_ok (ss := ss) (ac := ac) (ks := ks) (pp := ps.map tS) (ds := ds) (by omega) hacn hM.ok (by rw [List.length_map]; omega) (by rw [List.length_map]; exact hG)).mono fun r hr => ?_
  subst hr
  rw [List.length_map]
  have hu0 := lunits_ok (m1 := tS ac) (m3 := .tup []) (m4 := .tup []) (π := none) (fun q e => by cases e) hssn hss (show ks.length ≤ 6 by omega) hM.ok
  have hul : (units ss (2 ^ ss.length) none ks).length ≤ 6 * 81 := Nat.le_trans (units_len (pow_le hss) _) (Nat.mul_le_mul_right _ (by omega))
  refine w_seq ?_
  simp
  refine hu0.mono fun r hr => ?_
  subst hr
  refine w_seq ?_
  simp
  have hpu := units_ok (m1 := tS ac) (m3 := .tup []) (m4 := .tup []) (π := none) (b := 10) hss (by decide) (show ks.length ≤ 6 by omega) (fun k hk' => (hM.ok k hk').gd)
  refine hpu.mono fun r hr => ?_
  subst hr
  refine (same_ok 2 40 _ (by decide) (un_tr (by omega))).mono fun r hr => ?_
  subst hr
  simp
  refine w_seq ?_
  simp
  have hfl := flows_ok (m1 := tS ac) (m3 := .tup []) (m4 := .tup []) (ps := ps) (ds := ds) (lone := none) (fun l e => by cases e) hss (show ks.length ≤ 6 by omega) hM.ok (by omega) (by omega) hds
  refine hfl.mono fun r hr => ?_
  have hr' : r = tI ((units ss (2 ^ ss.length) none ks).map (flw (prf ss ps) ds)) := hr
  clear hr
  subst hr'
  refine w_seq ?_
  simp
  have hlf := lflows_ok (m1 := tS ac) (m3 := .tup []) (m4 := .tup []) (ps := ps) (ds := ds) (lone := none) (fun l e => by cases e) hssn hsso hss (show ks.length ≤ 6 by omega) hM.nd hkso hM.ok (by omega) (by omega) hds
  refine hlf.mono fun r hr => ?_
  have hr' : r = tI ((units ss (2 ^ ss.length) none ks).map (flw (prf ss ps) ds)) := hr
  clear hr
  subst hr'
  refine (same_ok 1 40 _ (by decide) (tI_tr (by rw [List.length_map]; omega))).mono fun r hr => ?_
  subst hr
  simp
  refine w_seq ?_
  simp
  refine (countered_ok (K := 3) (by decide) hlb1 hlb2 hlbn hM).mono fun r ⟨ks', hr, C⟩ => ?_
  subst hr
  have hkl' := C.len
  have hul' : (units ss (2 ^ ss.length) none ks').length ≤ 6 * 81 := Nat.le_trans (units_len (pow_le hss) _) (Nat.mul_le_mul_right _ (by omega))
  refine w_seq ?_
  simp
  have hpu' := units_ok (m1 := tS ac) (m3 := .tup []) (m4 := .tup []) (π := none) (b := 10) hss (by decide) (show ks'.length ≤ 6 by omega) (fun k hk' => (C.ok k hk').gd)
  refine hpu'.mono fun r hr => ?_
  subst hr
  have hu0' := lunits_ok (m1 := tS ac) (m3 := .tup []) (m4 := .tup []) (π := none) (fun q e => by cases e) hssn hss (show ks'.length ≤ 6 by omega) C.ok
  refine hu0'.mono fun r hr => ?_
  subst hr
  simp
  refine (same_ok 2 40 _ (by decide) (un_tr (by omega))).mono fun r hr => ?_
  subst hr
  simp
  refine w_seq ?_
  refine w_for.mpr ?_
  simp
  obtain ⟨us, hus⟩ : ∃ us, us = units ss (2 ^ ss.length) none ks := ⟨_, rfl⟩
  obtain ⟨us', hus'⟩ : ∃ us, us = units ss (2 ^ ss.length) none ks' := ⟨_, rfl⟩
  rw [← hus] at hul ⊢
  rw [← hus'] at hul'
  obtain ⟨v2, hv2⟩ : ∃ v, v = Sl.val (D.tup [tS ss, tS ac, D.lst (List.map D.str lb)]) := ⟨_, rfl⟩
  obtain ⟨v5, hv5⟩ : ∃ v, v = Sl.val (D.lst (List.map Dl.d ds)) := ⟨_, rfl⟩
  obtain ⟨cf0, hcf0⟩ : ∃ f : List (Int × Str × Sx) → Bool → Un → Int, f = fun ts r => cfN ss ac (2 ^ ss.length) ks none (.sum ts r) none := ⟨_, rfl⟩
  obtain ⟨cf1, hcf1⟩ : ∃ f : List (Int × Str × Sx) → Bool → Un → Int, f = fun ts r => cfN ss ac (2 ^ ss.length) ks' none (.sum ts r) none := ⟨_, rfl⟩
  have hbs := fun p s => bal_small hM.ok (by omega) hG p s
  refine wfor_inv (J_q ns (0 + 1100 + 1 + 30000000 + 5 + 400 + 1 + 300) [.val (.tup [tS ss, tS ac, .lst (lb.map D.str)]), .val (mdD ss ac ks), .val (.lst (ps.map tS)), .val (.lst (ds.map Dl.d)), .val (.tup [.tup (ps.map tS), .tup (ds.map Dl.d)]), .val (.lst ((tabL ac ps.length (bal ks ds)).map D.lst)), .val (.lst (us.map unD)), .val (tI (us.map (flw (prf ss ps) ds))), .val (mdD ss ac ks')]) ⟨tp7, .un, .un, .un, .un, .un, .un, .un, .un, rfl, ht7, by simp⟩ (fun i d e hd ⟨tp, a11, a12, a13, a14, a15, a16, a17, a18, he, ht, h11, h12, h13, h14, h15, h16, h17, h18⟩ => ?_) (fun e ⟨tp, a11, a12, a13, a14, a15, a16, a17, a18, he, ht, h11, h12, h13, h14, h15, h16, h17, h18⟩ => ?_)
  · subst he
    have hi := (List.getElem?_eq_some_iff.mp hd).1
    rw [rngL_length] at hi
    have hdi := rngL_get hd
    rw [Int.zero_add] at hdi
    subst hdi
    rw [wo_gN]
    simp [setV_pl, h11]
    unfold m_law_2
    refine w_seq ?_
    simp
    rw [setO_any h12]
    refine w_seq ?_
    refine w_for.mpr ?_
    simp
    refine (draw_ok (by omega) ht (by decide)).mono fun r tp8 ⟨ht8, k8, hk8, hk80, hk81⟩ => ?_
    subst hk8
    simp
    refine ⟨by omega, ?_⟩
    refine wfor_inv (J_t ns (0 + 1100 + 1 + 30000000 + 5 + 400 + 1 + 300 + 10000000 * i + 1) [.val (.tup [tS ss, tS ac, .lst (lb.map D.str)]), .val (mdD ss ac ks), .val (.lst (ps.map tS)), .val (.lst (ds.map Dl.d)), .val (.tup [.tup (ps.map tS), .tup (ds.map Dl.d)]), .val (.lst ((tabL ac ps.length (bal ks ds)).map D.lst)), .val (.lst (us.map unD)), .val (tI (us.map (flw (prf ss ps) ds))), .val (mdD ss ac ks'), .val (nD i)] [a15, a16, a17, a18] ss ac) ⟨tp8, [], a13, a14, rfl, ht8, rfl, fun t ht => (by cases ht), h13, h14⟩ (fun j d e hd ⟨tp, ts, b13, b14, he, ht, hts, htg, k13, k14⟩ => ?_) (fun e ⟨tp, ts, b13, b14, he, ht, hts, htg, k13, k14⟩ => ?_)
    · subst he
      have hj := (List.getElem?_eq_some_iff.mp hd).1
      rw [rngL_length] at hj
      rw [wo_gN]
      simp [setV_pl, k13]
      unfold m_law_1
      refine w_seq ?_
      simp
      refine (draw_ok (by omega) ht (by omega)).mono fun r tp9 ⟨ht9, k9, hk9, hk90, hk91⟩ => ?_
      subst hk9
      refine wo_ixET (enc := D.str) hk90 (by omega) fun acn hacn' => ?_
      have hacm := List.mem_of_getElem? hacn'
      simp [setV_pl, k14]
      refine (number_ok (Or.inl rfl) (by omega) ht9).mono fun r tp10 ⟨ht10, z, hz, hz2, _⟩ => ?_
      subst hz
      refine (some_ok (ss := ss) (by omega) (by omega) ht10 (by decide)).mono fun r tp11 ⟨ht11, x, hx, hx1, hx2⟩ => ?_
      subst hx
      refine ⟨by omega, tp11, ts ++ [(z, acn, x)], .val d, .val (.str acn), ?_, ht11.mono (by omega), by simp [hts], fun t htm => ?_, Pl_val, Pl_val⟩
      · simp [tsD]
      · rcases List.mem_append.mp htm with htm | htm
        · exact htg t htm
        · simp at htm; subst htm; exact ⟨hacm, hz2, hx1, hx2⟩
    · subst he
      rw [rngL_length] at ht hts
      obtain ⟨rl, hrl⟩ : ∃ rl : Bool, D.str (rlS rl) = if i = 2 then D.str "=" else D.str ">=" := by
        by_cases e : i = 2
        · exact ⟨true, by simp [e, rlS]⟩
        · exact ⟨false, by simp [e, rlS]⟩
      have htl : ts.length ≤ 4 := by omega
      have hcd : (Cn.sum ts rl).gd ss ac 10 := ⟨htg, by omega⟩
      have htg2 : ∀ t ∈ ts, t.2.1 ∈ ac ∧ t.2.2.ok ss := fun t h => ⟨(htg t h).1, (htg t h).2.2.1⟩
      refine w_seq ?_
      simp
      have hix : ∀ {R : D → Prop}, R (.str (rlS rl)) → Wo (ixD (.lst [.str ">=", .str "="]) (.int ((i : Int) / 2))) R := fun {R} q => by
        have hi3 : i = 0 ∨ i = 1 ∨ i = 2 := by omega
        rcases hi3 with rfl | rfl | rfl
        · rw [hrl] at q; simpa using q
        · rw [hrl] at q; simpa using q
        · rw [hrl] at q; simpa using q
      refine ⟨by decide, hix ?_⟩
      simp [setV_pl, h15]
      refine w_seq ?_
      simp
      have hct := contributions_ok (m3 := .tup []) (m4 := .tup []) (r := rl) hss (show ac.length ≤ 4 by omega) hacn (show ks.length ≤ 6 by omega) hM.ok hcd
      refine hct.mono fun r hr => ?_
      subst hr
      simp [setV_pl, h16]
      have hcut : ((units ss (2 ^ ss.length) none ks).map (cuD (cfN ss ac (2 ^ ss.length) ks none (.sum ts rl) none))).map fCut = us.map unD := by
        rw [hus, List.map_map]
        apply List.map_congr_left
        intro u _
        simp [fCut, cuD, unD]
      have hcfl : ∀ u ∈ us, (cfN ss ac (2 ^ ss.length) ks none (.sum ts rl) none u).natAbs ≤ 2 ^ 60 := fun u hu => by
        rw [hus] at hu
        exact cf_small (by omega) hM.ok hcd (units_rng u hu).1
      have hcfl' : ∀ u ∈ us', (cfN ss ac (2 ^ ss.length) ks' none (.sum ts rl) none u).natAbs ≤ 2 ^ 60 := fun u hu => by
        rw [hus'] at hu
        exact cf_small (by omega) C.ok hcd (units_rng u hu).1
      have hfs : ∀ u, (flw (prf ss ps) ds u).natAbs ≤ 2 ^ 310 := fun u => flw_small (by omega) (fun d hd => (hG d hd).sm) u
      have hval := flow_value (ks := ks) (ks' := ks) (ps := ps) (ds := ds) (ts := ts) (r := rl) hacn hM.nd hM.ok hds (fun _ _ => rfl) htg2
      have hval' := flow_value (ks := ks) (ks' := ks') (ps := ps) (ds := ds) (ts := ts) (r := rl) hacn C.nd C.ok (fun d hd => C.dl (hds d hd)) (fun p s => C.bal (fun d hd => (hG d hd).kin) p s) htg2
      rw [← hus] at hval hcut ⊢
      rw [← hus'] at hval'
      obtain ⟨cf, hcf⟩ : ∃ f, f = cfN ss ac (2 ^ ss.length) ks none (.sum ts rl) none := ⟨_, rfl⟩
      obtain ⟨cf', hcf'⟩ : ∃ f, f = cfN ss ac (2 ^ ss.length) ks' none (.sum ts rl) none := ⟨_, rfl⟩
      rw [← hcf] at hval hcfl hcut ⊢
      rw [← hcf'] at hval' hcfl'
      refine w_seq ?_
      simp
      refine wlc_pureE fCut ?_
      simp [backE, ownAt_pl, h17]
      refine ⟨by omega, fun d a b c hm he => ?_, ?_⟩
      · subst he
        simp [setV_pl, h17, cuD, cutN3, fCut]
      · have hcut2 : us.map (fCut ∘ cuD cf) = us.map unD := by rw [← hcut, List.map_map]
        rw [hcut2]
        refine (same_ok 2 40 _ (by decide) (un_tr (by omega))).mono fun r hr => ?_
        subst hr
        simp
        have hlv := lvalue_ok (ss := ss) (ac := ac) (m2 := .tup (ks.map Kin.d)) (m3 := .tup []) (m4 := .tup []) (ps := ps) (B := bal ks ds) (ts := ts) (r := rl) (b := 10) (by omega) hbs (by decide) htg
        have hpv := value_ok (ss := ss) (ac := ac) (ks := ks) (m3 := .tup []) (m4 := .tup []) (ps := ps) (ds := ds) (ts := ts) (r := rl) (b := 10) hss (by omega) (by decide) (by omega) hM.ok (by omega) (by omega) hG htg
        have htot := total_ok (us := us) (f := flw (prf ss ps) ds) (cf := cf) (by omega) (fun u _ => hfs u) hcfl
        have htot' := total_ok (us := us') (f := flw (prf ss ps) ds) (cf := cf') (by omega) (fun u _ => hfs u) hcfl'
        rw [hval] at htot
        rw [hval'] at htot'
        refine w_seq ?_
        simp
        refine hlv.mono fun r hr => ?_
        subst hr
        simp [setV_pl, h18]
        refine w_seq ?_
        simp
        refine hpv.mono fun r hr => ?_
        subst hr
        refine (same_ok 0 40 _ (by decide) tr_int).mono fun r hr => ?_
        subst hr
        simp
        refine htot.mono fun r hr => ?_
        subst hr
        simp
        refine w_seq ?_
        simp
        refine wlc_filtE pNeg id ?_
        simp [backE, ownAt_pl, h17]
        refine ⟨by omega, fun d0 a b c hm he => ?_, ?_⟩
        · subst he
          simp [setV_pl, h17, cuD, pNeg]
        · refine both (fun hall => ?_) ?_
          · rw [← hval]
            refine flow_nn hx1 fun u hu => ?_
            have := hall _ u.1 u.2.1 u.2.2 hu rfl
            simpa [pNeg, cuD] using this
          · refine w_seq ?_
            simp
            have hfl' := flows_ok (m1 := tS ac) (m3 := .tup []) (m4 := .tup []) (ps := ps) (ds := ds) (lone := none) (fun l e => by cases e) hss (show ks'.length ≤ 6 by omega) C.ok (by omega) (by omega) (fun d hd => C.dl (hds d hd))
            refine hfl'.mono fun r hr => ?_
            have hr' : r = tI (us'.map (flw (prf ss ps) ds)) := by rw [hus']; exact hr
            clear hr
            subst hr'
            have hct' := contributions_ok (m3 := .tup []) (m4 := .tup []) (ks := ks') (r := rl) hss (show ac.length ≤ 4 by omega) hacn (show ks'.length ≤ 6 by omega) C.ok hcd
            rw [← hus', ← hcf'] at hct'
            refine hct'.mono fun r hr => ?_
            subst hr
            refine htot'.mono fun r hr => ?_
            subst hr
            simp
            have hob := one_by_one_ok (ks := ks) (ts := ts) (r := rl) (m3 := .tup []) (m4 := .tup []) rfl rfl hss hssn (show ac.length ≤ 4 by omega) hacn (show ks.length ≤ 6 by omega) hM.nd hM.ok htg
            rw [← hus, ← hcf] at hob
            refine hob.mono fun r hr => ?_
            subst hr
            simp
            exact ⟨tp, nD i |> .val, .own false (.lst (ts.map tsD)), b13, b14, _, _, a17, _, rfl, ht.mono (by omega), Pl_val, Or.inr ⟨_, rfl⟩, k13, k14, Pl_val, Pl_val, h17, Pl_val⟩
  · subst he
    simp
end Mir
namespace Mir
open PySem L2
section
open PySem L2 PyProof.Rows
def topS (i : Nat) : Stmt := PySem.Challenge.pw_ledgerproof_k38_whole_values_by_flows.main.body.getD i (.Pass ⟨0, 0, 0, 0⟩)
abbrev s_profile_count : Stmt := topS 4
theorem sc_profile_count : FnScope ["model", "count", "_"] ["model"] (defScope s_profile_count) := ⟨rfl, rfl, rfl, by decide +kernel, rfl, by decide +kernel, by decide +kernel⟩
def d_profile_count : He.DefD := ⟨("profile_count", none), "profile_count", "profile_count", defArgs s_profile_count, defBody s_profile_count, defScope s_profile_count, [], []⟩
abbrev s_profile_of : Stmt := topS 5
theorem sc_profile_of : FnScope ["model", "names", "number", "index", "name"] ["model", "names"] (defScope s_profile_of) := ⟨rfl, rfl, rfl, by decide +kernel, rfl, by decide +kernel, by decide +kernel⟩
def d_profile_of : He.DefD := ⟨("profile_of", none), "profile_of", "profile_of", defArgs s_profile_of, defBody s_profile_of, defScope s_profile_of, [], []⟩
abbrev s_belongs : Stmt := topS 6
theorem sc_belongs : FnScope ["model", "profile", "sector", "kind"] ["model", "profile", "sector"] (defScope s_belongs) := ⟨rfl, rfl, rfl, by decide +kernel, rfl, by decide +kernel, by decide +kernel⟩
def d_belongs : He.DefD := ⟨("belongs", none), "belongs", "belongs", defArgs s_belongs, defBody s_belongs, defScope s_belongs, [], []⟩
abbrev s_entry_of : Stmt := topS 8
theorem sc_entry_of : FnScope ["entries", "account", "row"] ["entries", "account"] (defScope s_entry_of) := ⟨rfl, rfl, rfl, by decide +kernel, rfl, by decide +kernel, by decide +kernel⟩
def d_entry_of : He.DefD := ⟨("entry_of", none), "entry_of", "entry_of", defArgs s_entry_of, defBody s_entry_of, defScope s_entry_of, [], []⟩
abbrev s_terms_of : Stmt := topS 9
theorem sc_terms_of : FnScope ["constraint"] ["constraint"] (defScope s_terms_of) := ⟨rfl, rfl, rfl, by decide +kernel, rfl, by decide +kernel, by decide +kernel⟩
def d_terms_of : He.DefD := ⟨("terms_of", none), "terms_of", "terms_of", defArgs s_terms_of, defBody s_terms_of, defScope s_terms_of, [], []⟩
abbrev s_added : Stmt := topS 12
theorem sc_added : FnScope ["row", "amount", "entries", "balance", "entry"] ["row", "amount", "entries"] (defScope s_added) := ⟨rfl, rfl, rfl, by decide +kernel, rfl, by decide +kernel, by decide +kernel⟩
def d_added : He.DefD := ⟨("added", none), "added", "added", defArgs s_added, defBody s_added, defScope s_added, [], []⟩
abbrev s_member_value : Stmt := topS 16
theorem sc_member_value : FnScope ["model", "row", "terms", "number", "account"] ["model", "row", "terms"] (defScope s_member_value) := ⟨rfl, rfl, rfl, by decide +kernel, rfl, by decide +kernel, by decide +kernel⟩
def d_member_value : He.DefD := ⟨("member_value", none), "member_value", "member_value", defArgs s_member_value, defBody s_member_value, defScope s_member_value, [], []⟩
abbrev s__law_tape : Stmt := topS 31
theorem sc__law_tape : FnScope ["script", "total", "cell"] ["script"] (defScope s__law_tape) := ⟨rfl, rfl, rfl, by decide +kernel, rfl, by decide +kernel, by decide +kernel⟩
def d__law_tape : He.DefD := ⟨("_law_tape", none), "_law_tape", "_law_tape", defArgs s__law_tape, defBody s__law_tape, defScope s__law_tape, [], []⟩
abbrev s__law_draw : Stmt := topS 32
theorem sc__law_draw : FnScope ["tape", "many", "place", "number"] ["tape", "many"] (defScope s__law_draw) := ⟨rfl, rfl, rfl, by decide +kernel, rfl, by decide +kernel, by decide +kernel⟩
def d__law_draw : He.DefD := ⟨("_law_draw", none), "_law_draw", "_law_draw", defArgs s__law_draw, defBody s__law_draw, defScope s__law_draw, [], []⟩
abbrev s__law_same : Stmt := topS 33
theorem sc__law_same : FnScope ["actual", "expected", "k"] ["actual", "expected"] (defScope s__law_same) := ⟨rfl, rfl, rfl, by decide +kernel, rfl, by decide +kernel, by decide +kernel⟩
def d__law_same : He.DefD := ⟨("_law_same", none), "_law_same", "_law_same", defArgs s__law_same, defBody s__law_same, defScope s__law_same, [], []⟩
abbrev s__law_letters : Stmt := topS 35
theorem sc__law_letters : FnScope [] [] (defScope s__law_letters) := ⟨rfl, rfl, rfl, by decide +kernel, rfl, by decide +kernel, by decide +kernel⟩
def d__law_letters : He.DefD := ⟨("_law_letters", none), "_law_letters", "_law_letters", defArgs s__law_letters, defBody s__law_letters, defScope s__law_letters, [], []⟩
abbrev s__law_reserved : Stmt := topS 36
theorem sc__law_reserved : FnScope ["words"] [] (defScope s__law_reserved) := ⟨rfl, rfl, rfl, by decide +kernel, rfl, by decide +kernel, by decide +kernel⟩
def d__law_reserved : He.DefD := ⟨("_law_reserved", none), "_law_reserved", "_law_reserved", defArgs s__law_reserved, defBody s__law_reserved, defScope s__law_reserved, [], []⟩
abbrev s__law_sets : Stmt := topS 39
theorem sc__law_sets : FnScope ["sectors", "rows", "name", "row"] ["sectors"] (defScope s__law_sets) := ⟨rfl, rfl, rfl, by decide +kernel, rfl, by decide +kernel, by decide +kernel⟩
def d__law_sets : He.DefD := ⟨("_law_sets", none), "_law_sets", "_law_sets", defArgs s__law_sets, defBody s__law_sets, defScope s__law_sets, [], []⟩
abbrev s__law_member : Stmt := topS 43
theorem sc__law_member : FnScope ["sector", "names"] ["sector", "names"] (defScope s__law_member) := ⟨rfl, rfl, rfl, by decide +kernel, rfl, by decide +kernel, by decide +kernel⟩
def d__law_member : He.DefD := ⟨("_law_member", none), "_law_member", "_law_member", defArgs s__law_member, defBody s__law_member, defScope s__law_member, [], []⟩
abbrev s__law_negated : Stmt := topS 47
theorem sc__law_negated : FnScope ["entries", "entry"] ["entries"] (defScope s__law_negated) := ⟨rfl, rfl, rfl, by decide +kernel, rfl, by decide +kernel, by decide +kernel⟩
def d__law_negated : He.DefD := ⟨("_law_negated", none), "_law_negated", "_law_negated", defArgs s__law_negated, defBody s__law_negated, defScope s__law_negated, [], []⟩
abbrev s__law_taken : Stmt := topS 53
theorem sc__law_taken : FnScope ["model", "row"] ["model"] (defScope s__law_taken) := ⟨rfl, rfl, rfl, by decide +kernel, rfl, by decide +kernel, by decide +kernel⟩
def d__law_taken : He.DefD := ⟨("_law_taken", none), "_law_taken", "_law_taken", defArgs s__law_taken, defBody s__law_taken, defScope s__law_taken, [], []⟩
abbrev s__law_ordered : Stmt := topS 56
theorem sc__law_ordered : FnScope ["model", "names", "name"] ["model", "names"] (defScope s__law_ordered) := ⟨rfl, rfl, rfl, by decide +kernel, rfl, by decide +kernel, by decide +kernel⟩
def d__law_ordered : He.DefD := ⟨("_law_ordered", none), "_law_ordered", "_law_ordered", defArgs s__law_ordered, defBody s__law_ordered, defScope s__law_ordered, [], []⟩
abbrev s__law_kind_of : Stmt := topS 61
theorem sc__law_kind_of : FnScope ["model", "name", "found", "kind"] ["model", "name"] (defScope s__law_kind_of) := ⟨rfl, rfl, rfl, by decide +kernel, rfl, by decide +kernel, by decide +kernel⟩
def d__law_kind_of : He.DefD := ⟨("_law_kind_of", none), "_law_kind_of", "_law_kind_of", defArgs s__law_kind_of, defBody s__law_kind_of, defScope s__law_kind_of, [], []⟩
abbrev s__law_total : Stmt := topS 67
theorem sc__law_total : FnScope ["amounts", "told", "k"] ["amounts", "told"] (defScope s__law_total) := ⟨rfl, rfl, rfl, by decide +kernel, rfl, by decide +kernel, by decide +kernel⟩
def d__law_total : He.DefD := ⟨("_law_total", none), "_law_total", "_law_total", defArgs s__law_total, defBody s__law_total, defScope s__law_total, [], []⟩
abbrev s_entry_rows : Stmt := topS 11
theorem sc_entry_rows : FnScope ["model", "rows", "kind", "paying", "account"] ["model"] (defScope s_entry_rows) := ⟨rfl, rfl, rfl, by decide +kernel, rfl, by decide +kernel, by decide +kernel⟩
def d_entry_rows : He.DefD := ⟨("entry_rows", none), "entry_rows", "entry_rows", defArgs s_entry_rows, defBody s_entry_rows, defScope s_entry_rows, [], []⟩
abbrev s_members : Stmt := topS 14
theorem sc_members : FnScope ["model", "participants", "sector", "number", "names"] ["model", "participants", "sector"] (defScope s_members) := ⟨rfl, rfl, rfl, by decide +kernel, rfl, by decide +kernel, by decide +kernel⟩
def d_members : He.DefD := ⟨("members", none), "members", "members", defArgs s_members, defBody s_members, defScope s_members, [], []⟩
abbrev s_group_profiles : Stmt := topS 20
theorem sc_group_profiles : FnScope ["model", "profile", "found"] ["model", "profile"] (defScope s_group_profiles) := ⟨rfl, rfl, rfl, by decide +kernel, rfl, by decide +kernel, by decide +kernel⟩
def d_group_profiles : He.DefD := ⟨("group_profiles", none), "group_profiles", "group_profiles", defArgs s_group_profiles, defBody s_group_profiles, defScope s_group_profiles, [], []⟩
abbrev s_worth : Stmt := topS 24
theorem sc_worth : FnScope ["model", "weights", "entries", "weight", "account"] ["model", "weights", "entries"] (defScope s_worth) := ⟨rfl, rfl, rfl, by decide +kernel, rfl, by decide +kernel, by decide +kernel⟩
def d_worth : He.DefD := ⟨("worth", none), "worth", "worth", defArgs s_worth, defBody s_worth, defScope s_worth, [], []⟩
abbrev s_profile_apart : Stmt := topS 28
theorem sc_profile_apart : FnScope ["model", "ledger", "apart"] ["model", "ledger", "apart"] (defScope s_profile_apart) := ⟨rfl, rfl, rfl, by decide +kernel, rfl, by decide +kernel, by decide +kernel⟩
def d_profile_apart : He.DefD := ⟨("profile_apart", none), "profile_apart", "profile_apart", defArgs s_profile_apart, defBody s_profile_apart, defScope s_profile_apart, [], []⟩
abbrev s__law_order : Stmt := topS 34
theorem sc__law_order : FnScope ["tape", "many", "left", "order", "k"] ["tape", "many"] (defScope s__law_order) := ⟨rfl, rfl, rfl, by decide +kernel, rfl, by decide +kernel, by decide +kernel⟩
def d__law_order : He.DefD := ⟨("_law_order", none), "_law_order", "_law_order", defArgs s__law_order, defBody s__law_order, defScope s__law_order, [], []⟩
abbrev s__law_run : Stmt := topS 37
theorem sc__law_run : FnScope ["tape", "size", "k"] ["tape", "size"] (defScope s__law_run) := ⟨rfl, rfl, rfl, by decide +kernel, rfl, by decide +kernel, by decide +kernel⟩
def d__law_run : He.DefD := ⟨("_law_run", none), "_law_run", "_law_run", defArgs s__law_run, defBody s__law_run, defScope s__law_run, [], []⟩
abbrev s__law_leaf : Stmt := topS 40
theorem sc__law_leaf : FnScope ["tape", "sectors", "choice"] ["tape", "sectors"] (defScope s__law_leaf) := ⟨rfl, rfl, rfl, by decide +kernel, rfl, by decide +kernel, by decide +kernel⟩
def d__law_leaf : He.DefD := ⟨("_law_leaf", none), "_law_leaf", "_law_leaf", defArgs s__law_leaf, defBody s__law_leaf, defScope s__law_leaf, [], []⟩
abbrev s__law_number : Stmt := topS 45
theorem sc__law_number : FnScope ["tape", "wide", "numbers", "number"] ["tape", "wide"] (defScope s__law_number) := ⟨rfl, rfl, rfl, by decide +kernel, rfl, by decide +kernel, by decide +kernel⟩
def d__law_number : He.DefD := ⟨("_law_number", none), "_law_number", "_law_number", defArgs s__law_number, defBody s__law_number, defScope s__law_number, [], []⟩
abbrev s__law_crowd : Stmt := topS 55
theorem sc__law_crowd : FnScope ["tape", "many", "rare"] ["tape", "many", "rare"] (defScope s__law_crowd) := ⟨rfl, rfl, rfl, by decide +kernel, rfl, by decide +kernel, by decide +kernel⟩
def d__law_crowd : He.DefD := ⟨("_law_crowd", none), "_law_crowd", "_law_crowd", defArgs s__law_crowd, defBody s__law_crowd, defScope s__law_crowd, [], []⟩
abbrev s__law_amount : Stmt := topS 57
theorem sc__law_amount : FnScope ["tape"] ["tape"] (defScope s__law_amount) := ⟨rfl, rfl, rfl, by decide +kernel, rfl, by decide +kernel, by decide +kernel⟩
def d__law_amount : He.DefD := ⟨("_law_amount", none), "_law_amount", "_law_amount", defArgs s__law_amount, defBody s__law_amount, defScope s__law_amount, [], []⟩
abbrev s__law_members : Stmt := topS 58
theorem sc__law_members : FnScope ["people", "sector", "k"] ["people", "sector"] (defScope s__law_members) := ⟨rfl, rfl, rfl, by decide +kernel, rfl, by decide +kernel, by decide +kernel⟩
def d__law_members : He.DefD := ⟨("_law_members", none), "_law_members", "_law_members", defArgs s__law_members, defBody s__law_members, defScope s__law_members, [], []⟩
abbrev s__law_posted : Stmt := topS 62
theorem sc__law_posted : FnScope ["model", "people", "deals", "rows", "person", "deal", "kind", "entry", "row", "at"] ["model", "people", "deals"] (defScope s__law_posted) := ⟨rfl, rfl, rfl, by decide +kernel, rfl, by decide +kernel, by decide +kernel⟩
def d__law_posted : He.DefD := ⟨("_law_posted", none), "_law_posted", "_law_posted", defArgs s__law_posted, defBody s__law_posted, defScope s__law_posted, [], []⟩
abbrev s__law_countered : Stmt := topS 64
theorem sc__law_countered : FnScope ["lists", "model", "label", "name", "kind", "turned"] ["lists", "model"] (defScope s__law_countered) := ⟨rfl, rfl, rfl, by decide +kernel, rfl, by decide +kernel, by decide +kernel⟩
def d__law_countered : He.DefD := ⟨("_law_countered", none), "_law_countered", "_law_countered", defArgs s__law_countered, defBody s__law_countered, defScope s__law_countered, [], []⟩
abbrev s_balances : Stmt := topS 13
theorem sc_balances : FnScope ["model", "ledger", "entries", "rows", "_", "name", "payer", "payee", "amount", "row"] ["model", "ledger"] (defScope s_balances) := ⟨rfl, rfl, rfl, by decide +kernel, rfl, by decide +kernel, by decide +kernel⟩
def d_balances : He.DefD := ⟨("balances", none), "balances", "balances", defArgs s_balances, defBody s_balances, defScope s_balances, [], []⟩
abbrev s_sum_value : Stmt := topS 15
theorem sc_sum_value : FnScope ["model", "participants", "rows", "terms", "total", "number", "account", "sector", "place", "member"] ["model", "participants", "rows", "terms"] (defScope s_sum_value) := ⟨rfl, rfl, rfl, by decide +kernel, rfl, by decide +kernel, by decide +kernel⟩
def d_sum_value : He.DefD := ⟨("sum_value", none), "sum_value", "sum_value", defArgs s_sum_value, defBody s_sum_value, defScope s_sum_value, [], []⟩
abbrev s_groups_in : Stmt := topS 21
theorem sc_groups_in : FnScope ["model", "profile", "sector", "groups", "group", "member"] ["model", "profile", "sector"] (defScope s_groups_in) := ⟨rfl, rfl, rfl, by decide +kernel, rfl, by decide +kernel, by decide +kernel⟩
def d_groups_in : He.DefD := ⟨("groups_in", none), "groups_in", "groups_in", defArgs s_groups_in, defBody s_groups_in, defScope s_groups_in, [], []⟩
abbrev s_weights_of : Stmt := topS 23
theorem sc_weights_of : FnScope ["model", "profile", "constraint", "group", "found", "place", "member", "row", "term", "counts", "account"] ["model", "profile", "constraint", "group"] (defScope s_weights_of) := ⟨rfl, rfl, rfl, by decide +kernel, rfl, by decide +kernel, by decide +kernel⟩
def d_weights_of : He.DefD := ⟨("weights_of", none), "weights_of", "weights_of", defArgs s_weights_of, defBody s_weights_of, defScope s_weights_of, [], []⟩
abbrev s_contribution_row : Stmt := topS 25
theorem sc_contribution_row : FnScope ["model", "units", "weights", "sign", "paying", "paid", "kind", "row", "name", "payer", "payee"] ["model", "units", "weights", "sign"] (defScope s_contribution_row) := ⟨rfl, rfl, rfl, by decide +kernel, rfl, by decide +kernel, by decide +kernel⟩
def d_contribution_row : He.DefD := ⟨("contribution_row", none), "contribution_row", "contribution_row", defArgs s_contribution_row, defBody s_contribution_row, defScope s_contribution_row, [], []⟩
abbrev s__law_names : Stmt := topS 38
theorem sc__law_names : FnScope ["tape", "many", "stems", "stem", "words", "reserved", "left", "names", "k", "name", "word"] ["tape", "many"] (defScope s__law_names) := ⟨rfl, rfl, rfl, by decide +kernel, rfl, by decide +kernel, by decide +kernel⟩
def d__law_names : He.DefD := ⟨("_law_names", none), "_law_names", "_law_names", defArgs s__law_names, defBody s__law_names, defScope s__law_names, [], []⟩
abbrev s__law_sector : Stmt := topS 41
theorem sc__law_sector : FnScope ["tape", "sectors", "size", "depth", "level", "kind", "rank", "left", "first"] ["tape", "sectors", "size", "depth", "level"] (defScope s__law_sector) := ⟨rfl, rfl, rfl, by decide +kernel, rfl, by decide +kernel, by decide +kernel⟩
def d__law_sector : He.DefD := ⟨("_law_sector", none), "_law_sector", "_law_sector", defArgs s__law_sector, defBody s__law_sector, defScope s__law_sector, [], []⟩
abbrev s__law_deep : Stmt := topS 42
theorem sc__law_deep : FnScope ["tape", "sectors", "depth", "sector", "k", "choice"] ["tape", "sectors", "depth"] (defScope s__law_deep) := ⟨rfl, rfl, rfl, by decide +kernel, rfl, by decide +kernel, by decide +kernel⟩
def d__law_deep : He.DefD := ⟨("_law_deep", none), "_law_deep", "_law_deep", defArgs s__law_deep, defBody s__law_deep, defScope s__law_deep, [], []⟩
abbrev s__law_entries : Stmt := topS 46
theorem sc__law_entries : FnScope ["tape", "accounts", "wide", "left", "entries", "k", "account"] ["tape", "accounts", "wide"] (defScope s__law_entries) := ⟨rfl, rfl, rfl, by decide +kernel, rfl, by decide +kernel, by decide +kernel⟩
def d__law_entries : He.DefD := ⟨("_law_entries", none), "_law_entries", "_law_entries", defArgs s__law_entries, defBody s__law_entries, defScope s__law_entries, [], []⟩
abbrev s__law_people : Stmt := topS 54
theorem sc__law_people : FnScope ["tape", "sectors", "many", "sets", "people", "k", "names", "at"] ["tape", "sectors", "many"] (defScope s__law_people) := ⟨rfl, rfl, rfl, by decide +kernel, rfl, by decide +kernel, by decide +kernel⟩
def d__law_people : He.DefD := ⟨("_law_people", none), "_law_people", "_law_people", defArgs s__law_people, defBody s__law_people, defScope s__law_people, [], []⟩
abbrev s__law_deal : Stmt := topS 59
theorem sc__law_deal : FnScope ["tape", "kind", "people", "payers", "payer", "others", "k"] ["tape", "kind", "people"] (defScope s__law_deal) := ⟨rfl, rfl, rfl, by decide +kernel, rfl, by decide +kernel, by decide +kernel⟩
def d__law_deal : He.DefD := ⟨("_law_deal", none), "_law_deal", "_law_deal", defArgs s__law_deal, defBody s__law_deal, defScope s__law_deal, [], []⟩
abbrev s__law_value : Stmt := topS 63
theorem sc__law_value : FnScope ["model", "people", "rows", "constraint", "total", "term", "at", "k", "pairs"] ["model", "people", "rows", "constraint"] (defScope s__law_value) := ⟨rfl, rfl, rfl, by decide +kernel, rfl, by decide +kernel, by decide +kernel⟩
def d__law_value : He.DefD := ⟨("_law_value", none), "_law_value", "_law_value", defArgs s__law_value, defBody s__law_value, defScope s__law_value, [], []⟩
abbrev s__law_units : Stmt := topS 65
theorem sc__law_units : FnScope ["model", "profile", "groups", "many", "units", "kind", "payees", "payer", "payee"] ["model", "profile"] (defScope s__law_units) := ⟨rfl, rfl, rfl, by decide +kernel, rfl, by decide +kernel, by decide +kernel⟩
def d__law_units : He.DefD := ⟨("_law_units", none), "_law_units", "_law_units", defArgs s__law_units, defBody s__law_units, defScope s__law_units, [], []⟩
abbrev s_value_by : Stmt := topS 17
theorem sc_value_by : FnScope ["model", "participants", "rows", "constraint", "found", "member"] ["model", "participants", "rows", "constraint"] (defScope s_value_by) := ⟨rfl, rfl, rfl, by decide +kernel, rfl, by decide +kernel, by decide +kernel⟩
def d_value_by : He.DefD := ⟨("value_by", none), "value_by", "value_by", defArgs s_value_by, defBody s_value_by, defScope s_value_by, [], []⟩
abbrev s_unit_transactions : Stmt := topS 22
theorem sc_unit_transactions : FnScope ["model", "profile", "count", "found", "kind", "payees", "payer", "payee"] ["model", "profile"] (defScope s_unit_transactions) := ⟨rfl, rfl, rfl, by decide +kernel, rfl, by decide +kernel, by decide +kernel⟩
def d_unit_transactions : He.DefD := ⟨("unit_transactions", none), "unit_transactions", "unit_transactions", defArgs s_unit_transactions, defBody s_unit_transactions, defScope s_unit_transactions, [], []⟩
abbrev s__law_some_sector : Stmt := topS 44
theorem sc__law_some_sector : FnScope ["tape", "sectors", "size", "level", "choice"] ["tape", "sectors", "size", "level"] (defScope s__law_some_sector) := ⟨rfl, rfl, rfl, by decide +kernel, rfl, by decide +kernel, by decide +kernel⟩
def d__law_some_sector : He.DefD := ⟨("_law_some_sector", none), "_law_some_sector", "_law_some_sector", defArgs s__law_some_sector, defBody s__law_some_sector, defScope s__law_some_sector, [], []⟩
abbrev s__law_lists : Stmt := topS 51
theorem sc__law_lists : FnScope ["tape", "most", "names", "many", "first", "accounts"] ["tape", "most"] (defScope s__law_lists) := ⟨rfl, rfl, rfl, by decide +kernel, rfl, by decide +kernel, by decide +kernel⟩
def d__law_lists : He.DefD := ⟨("_law_lists", none), "_law_lists", "_law_lists", defArgs s__law_lists, defBody s__law_lists, defScope s__law_lists, [], []⟩
abbrev s__law_deals : Stmt := topS 60
theorem sc__law_deals : FnScope ["tape", "model", "people", "many", "deals", "k", "deal"] ["tape", "model", "people", "many"] (defScope s__law_deals) := ⟨rfl, rfl, rfl, by decide +kernel, rfl, by decide +kernel, by decide +kernel⟩
def d__law_deals : He.DefD := ⟨("_law_deals", none), "_law_deals", "_law_deals", defArgs s__law_deals, defBody s__law_deals, defScope s__law_deals, [], []⟩
abbrev s__law_flows : Stmt := topS 66
theorem sc__law_flows : FnScope ["model", "people", "deals", "lone", "sets", "groups", "person", "profile", "units", "amounts", "deal", "at"] ["model", "people", "deals", "lone"] (defScope s__law_flows) := ⟨rfl, rfl, rfl, by decide +kernel, rfl, by decide +kernel, by decide +kernel⟩
def d__law_flows : He.DefD := ⟨("_law_flows", none), "_law_flows", "_law_flows", defArgs s__law_flows, defBody s__law_flows, defScope s__law_flows, [], []⟩
abbrev s_value : Stmt := topS 18
theorem sc_value : FnScope ["model", "ledger", "constraint"] ["model", "ledger", "constraint"] (defScope s_value) := ⟨rfl, rfl, rfl, by decide +kernel, rfl, by decide +kernel, by decide +kernel⟩
def d_value : He.DefD := ⟨("value", none), "value", "value", defArgs s_value, defBody s_value, defScope s_value, [], []⟩
abbrev s_contributions : Stmt := topS 26
theorem sc_contributions : FnScope ["model", "constraint", "units", "row", "unit", "number"] ["model", "constraint"] (defScope s_contributions) := ⟨rfl, rfl, rfl, by decide +kernel, rfl, by decide +kernel, by decide +kernel⟩
def d_contributions : He.DefD := ⟨("contributions", none), "contributions", "contributions", defArgs s_contributions, defBody s_contributions, defScope s_contributions, [], []⟩
abbrev s_flows : Stmt := topS 29
theorem sc_flows : FnScope ["model", "ledger", "apart", "groups", "names", "units", "totals", "unit", "name", "payer", "payee", "amount"] ["model", "ledger", "apart"] (defScope s_flows) := ⟨rfl, rfl, rfl, by decide +kernel, rfl, by decide +kernel, by decide +kernel⟩
def d_flows : He.DefD := ⟨("flows", none), "flows", "flows", defArgs s_flows, defBody s_flows, defScope s_flows, [], [("apart", .non)]⟩
abbrev s__law_kind : Stmt := topS 48
theorem sc__law_kind : FnScope ["tape", "name", "sectors", "accounts", "size", "wide", "payer", "payee", "given", "taken"] ["tape", "name", "sectors", "accounts", "size", "wide"] (defScope s__law_kind) := ⟨rfl, rfl, rfl, by decide +kernel, rfl, by decide +kernel, by decide +kernel⟩
def d__law_kind : He.DefD := ⟨("_law_kind", none), "_law_kind", "_law_kind", defArgs s__law_kind, defBody s__law_kind, defScope s__law_kind, [], []⟩
abbrev s__law_constraint : Stmt := topS 49
theorem sc__law_constraint : FnScope ["tape", "sectors", "accounts", "many", "size", "wide", "relation", "terms", "k", "number", "rows", "term"] ["tape", "sectors", "accounts", "many", "size", "wide"] (defScope s__law_constraint) := ⟨rfl, rfl, rfl, by decide +kernel, rfl, by decide +kernel, by decide +kernel⟩
def d__law_constraint : He.DefD := ⟨("_law_constraint", none), "_law_constraint", "_law_constraint", defArgs s__law_constraint, defBody s__law_constraint, defScope s__law_constraint, [], []⟩
abbrev s__law_claim : Stmt := topS 50
theorem sc__law_claim : FnScope ["tape", "sectors", "accounts", "premises", "many", "size", "wide", "rows", "k"] ["tape", "sectors", "accounts", "premises", "many", "size", "wide"] (defScope s__law_claim) := ⟨rfl, rfl, rfl, by decide +kernel, rfl, by decide +kernel, by decide +kernel⟩
def d__law_claim : He.DefD := ⟨("_law_claim", none), "_law_claim", "_law_claim", defArgs s__law_claim, defBody s__law_claim, defScope s__law_claim, [], []⟩
abbrev s__law_one_by_one : Stmt := topS 68
theorem sc__law_one_by_one : FnScope ["model", "told", "total", "sets", "left", "row", "ledger"] ["model", "told", "total"] (defScope s__law_one_by_one) := ⟨rfl, rfl, rfl, by decide +kernel, rfl, by decide +kernel, by decide +kernel⟩
def d__law_one_by_one : He.DefD := ⟨("_law_one_by_one", none), "_law_one_by_one", "_law_one_by_one", defArgs s__law_one_by_one, defBody s__law_one_by_one, defScope s__law_one_by_one, [], []⟩
abbrev s__law_model : Stmt := topS 52
theorem sc__law_model : FnScope ["tape", "lists", "most", "many", "size", "wide", "sectors", "accounts", "labels", "kinds", "k", "assumptions", "label", "claims"] ["tape", "lists", "most", "many", "size", "wide"] (defScope s__law_model) := ⟨rfl, rfl, rfl, by decide +kernel, rfl, by decide +kernel, by decide +kernel⟩
def d__law_model : He.DefD := ⟨("_law_model", none), "_law_model", "_law_model", defArgs s__law_model, defBody s__law_model, defScope s__law_model, [], []⟩
abbrev s_law : Stmt := topS 69
theorem sc_law : FnScope ["script", "tape", "lists", "model", "people", "deals", "ledger", "rows", "units", "amounts", "more", "k", "terms", "at", "account", "total", "told", "row", "due"] ["script"] (defScope s_law) := ⟨rfl, rfl, rfl, by decide +kernel, rfl, by decide +kernel, by decide +kernel⟩
def d_law : He.DefD := ⟨("law", none), "law", "law", defArgs s_law, defBody s_law, defScope s_law, [], []⟩
def fn : List He.DefD := d_profile_count :: d_profile_of :: d_belongs :: d_entry_of :: d_terms_of :: d_added :: d_member_value :: d__law_tape :: d__law_draw :: d__law_same :: d__law_letters :: d__law_reserved :: d__law_sets :: d__law_member :: d__law_negated :: d__law_taken :: d__law_ordered :: d__law_kind_of :: d__law_total :: d_entry_rows :: d_members :: d_group_profiles :: d_worth :: d_profile_apart :: d__law_order :: d__law_run :: d__law_leaf :: d__law_number :: d__law_crowd :: d__law_amount :: d__law_members :: d__law_posted :: d__law_countered :: d_balances :: d_sum_value :: d_groups_in :: d_weights_of :: d_contribution_row :: d__law_names :: d__law_sector :: d__law_deep :: d__law_entries :: d__law_people :: d__law_deal :: d__law_value :: d__law_units :: d_value_by :: d_unit_transactions :: d__law_some_sector :: d__law_lists :: d__law_deals :: d__law_flows :: d_value :: d_contributions :: d_flows :: d__law_kind :: d__law_constraint :: d__law_claim :: d__law_one_by_one :: d__law_model :: d_law :: []
def fa : List He.Fa := .glo "profile_count" :: .glo "profile_of" :: .glo "belongs" :: .glo "entry_of" :: .glo "terms_of" :: .glo "added" :: .glo "member_value" :: .glo "_law_tape" :: .glo "_law_draw" :: .glo "_law_same" :: .glo "_law_letters" :: .glo "_law_reserved" :: .glo "_law_sets" :: .glo "_law_member" :: .glo "_law_negated" :: .glo "_law_taken" :: .glo "_law_ordered" :: .glo "_law_kind_of" :: .glo "_law_total" :: .glo "entry_rows" :: .glo "members" :: .glo "group_profiles" :: .glo "worth" :: .glo "profile_apart" :: .glo "_law_order" :: .glo "_law_run" :: .glo "_law_leaf" :: .glo "_law_number" :: .glo "_law_crowd" :: .glo "_law_amount" :: .glo "_law_members" :: .glo "_law_posted" :: .glo "_law_countered" :: .glo "balances" :: .glo "sum_value" :: .glo "groups_in" :: .glo "weights_of" :: .glo "contribution_row" :: .glo "_law_names" :: .glo "_law_sector" :: .glo "_law_deep" :: .glo "_law_entries" :: .glo "_law_people" :: .glo "_law_deal" :: .glo "_law_value" :: .glo "_law_units" :: .glo "value_by" :: .glo "unit_transactions" :: .glo "_law_some_sector" :: .glo "_law_lists" :: .glo "_law_deals" :: .glo "_law_flows" :: .glo "value" :: .glo "contributions" :: .glo "flows" :: .glo "_law_kind" :: .glo "_law_constraint" :: .glo "_law_claim" :: .glo "_law_one_by_one" :: .glo "_law_model" :: .glo "law" :: .free "enumerate" :: .free "zip" :: .free "sum" :: .free "int" :: .free "abs" :: .free "list" :: .free "len" :: .free "max" :: .free "isinstance" :: .free "tuple" :: .free "range" :: .free "bool" :: .free "str" :: .free "min" :: []
variable {P : Program} {w : World} {K : Fg} {mg : Str → Option Value} {base : Heap}
theorem ok_profile_count (X : K.In base) (G : base.Ns mainGlobals mg) (c : He.SaysD fa fn K) : Ok P w K mg base "profile_count" 1 ["model"] (sp0 K 1 m_profile_count) := by
  obtain ⟨fd, F⟩ := c.def_ 0 (d := d_profile_count) rfl
  have g := He.glo_ok X G (c.fact 0 (f := .glo "profile_count") rfl)
  exact ⟨_, fd, g, F.kp, (F.bindsN (ps := ["model"]) (fun _ _ _ _ _ _ us hl => match us, hl with | [_], _ => rfl)), fn0 F sc_profile_count fun cdv A outer s H E hr => ⟨_, PSs.nox (pss_cons (ps_set (i := 1) sc_profile_count.nd rfl (Or.inl rfl) pe_int)
      (pss_cons (ps_for PassesOwn.never rfl (pi_seq (pe_ix ix_seq (pv 0) pe_int (fun _ _ => rfl))) (pg_name (i := 2) sc_profile_count.nd rfl (Or.inl rfl)) (pss_one (ps_set (i := 1) sc_profile_count.nd rfl (Or.inl rfl) (pe_op op_mulAll pe_int (pv 1)))))
      (pss_one (ps_ret (pv 1))))),
    (simS_seq (simS_asg sim_c_int simG_n)
      (simS_seq (simS_for (simI_seq (sim_op rop_ix (simX_e sim_var) (simX_e sim_c_int))) simG_n (simS_asg (sim_op rop_mul (simX_e sim_c_int) (simX_e sim_var)) simG_n))
      (simS_ret sim_var)))⟩⟩
theorem ok_profile_of (X : K.In base) (G : base.Ns mainGlobals mg) (c : He.SaysD fa fn K) : Ok P w K mg base "profile_of" 1 ["model", "names"] (sp0 K 2 m_profile_of) := by
  obtain ⟨fd, F⟩ := c.def_ 1 (d := d_profile_of) rfl
  have g := He.glo_ok X G (c.fact 1 (f := .glo "profile_of") rfl)
  have t_enumerate := He.free_ok X G (c.fact 61 (f := .free "enumerate") rfl)
  exact ⟨_, fd, g, F.kp, (F.bindsN (ps := ["model", "names"]) (fun _ _ _ _ _ _ us hl => match us, hl with | [_, _], _ => rfl)), fn0 F sc_profile_of fun cdv A outer s H E hr => ⟨_, PSs.nox (pss_cons (ps_set (i := 2) sc_profile_of.nd rfl (Or.inl rfl) pe_int)
      (pss_cons (ps_for PassesOwn.never rfl (pi_enumK (by rfl) t_enumerate (pa_cons (pe_ix ix_seq (pv 0) pe_int (fun _ _ => rfl)) pa_nil)) (pg_tup rfl (pgs_cons (pg_name (i := 3) sc_profile_of.nd rfl (Or.inl rfl)) (pgs_cons (pg_name (i := 4) sc_profile_of.nd rfl (Or.inl rfl)) pgs_nil))) (pss_one (ps_if (pt_cmpR op_in_seq (pv 4) (pv 1) rfl) (pss_one (ps_set (i := 2) sc_profile_of.nd rfl (Or.inl rfl) (pe_op op_addAll (pv 2) (pe_op op_shl pe_int (pv 3))))) pss_nil)))
      (pss_one (ps_ret (pv 2))))),
    (simS_seq (simS_asg sim_c_int simG_n)
      (simS_seq (simS_for (simI_enum (sim_op rop_ix (simX_e sim_var) (simX_e sim_c_int))) (simG_t (simGs_cons simG_n (simGs_cons simG_n simGs_nil))) (simS_if (simT_test (sim_op rop_in (simX_e sim_var) (simX_e sim_var))) (simS_asg (sim_op rop_add (simX_e sim_var) (simX_e (sim_op rop_shl (simX_e sim_c_int) (simX_e sim_var)))) simG_n) simS_next))
      (simS_ret sim_var)))⟩⟩
theorem ok_belongs (n : Nat) (X : K.In base) (G : base.Ns mainGlobals mg) (c : He.SaysD fa fn K) : Ok P w K mg base "belongs" (n + 1) ["model", "profile", "sector"] (sp0 K 3 (m_belongs n)) := by
  induction n with
  | zero =>
    obtain ⟨fd, F⟩ := c.def_ 2 (d := d_belongs) rfl
    have g := He.glo_ok X G (c.fact 2 (f := .glo "belongs") rfl)
    exact ⟨_, fd, g, F.kp, (F.bindsN (ps := ["model", "profile", "sector"]) (fun _ _ _ _ _ _ us hl => match us, hl with | [_, _, _], _ => rfl)), none0 F sc_belongs⟩
  | succ n ih =>
    obtain ⟨fd, F⟩ := c.def_ 2 (d := d_belongs) rfl
    have g := He.glo_ok X G (c.fact 2 (f := .glo "belongs") rfl)
    obtain ⟨⟨f_belongs, fd_belongs, g_belongs, kp_belongs, b_belongs, G_belongs⟩⟩ := ih
    exact ⟨_, fd, g, F.kp, (F.bindsN (ps := ["model", "profile", "sector"]) (fun _ _ _ _ _ _ us hl => match us, hl with | [_, _, _], _ => rfl)), fn0 F sc_belongs fun cdv A outer s H E hr => ⟨_, PSs.nox (pss_cons (ps_set (i := 3) sc_belongs.nd rfl (Or.inl rfl) (pe_ix ix_seq (pv 2) pe_int (fun _ _ => rfl)))
      (pss_cons (ps_if (pt_cmpR (op_eqAll hr.units) (pv 3) pe_str (nomark _)) (pss_one (ps_ret pe_bl)) pss_nil)
      (pss_cons (ps_if (pt_cmpR (op_eqAll hr.units) (pv 3) pe_str (nomark _)) (pss_one (ps_ret pe_bl)) pss_nil)
      (pss_cons (ps_if (pt_cmpR (op_eqAll hr.units) (pv 3) pe_str (nomark _)) (pss_one (ps_ret (pe_cmpR (op_eqAll hr.units) (pe_op op_and (pe_op op_shr (pv 1) (pe_tm PySem.F.plainAttrs_tuple PySem.F.slot_tuple_index PySem.F.type_tuple_index mt_idxT (pe_ix ix_seq (pv 0) pe_int (fun _ _ => rfl)) (pa_cons (pe_ix ix_seq (pv 2) pe_int (fun _ _ => rfl)) pa_nil))) pe_int) pe_int (nomark _)))) pss_nil)
      (pss_cons (ps_if (pt_cmpR (op_eqAll hr.units) (pv 3) pe_str (nomark _)) (pss_one (ps_ret (pe_not (pe_call G_belongs (hr.mono (by omega)) (by rfl) g_belongs kp_belongs b_belongs .nil pass0 (pa_cons (pv 0) (pa_cons (pv 1) (pa_cons (pe_ix ix_seq (pv 2) pe_int (fun _ _ => rfl)) pa_nil))))))) pss_nil)
      (pss_cons (ps_if (pt_cmpR (op_eqAll hr.units) (pv 3) pe_str (nomark _)) (pss_one (ps_ret (pe_and (pe_call G_belongs (hr.mono (by omega)) (by rfl) g_belongs kp_belongs b_belongs .nil pass0 (pa_cons (pv 0) (pa_cons (pv 1) (pa_cons (pe_ix ix_seq (pv 2) pe_int (fun _ _ => rfl)) pa_nil)))) (pe_one (pe_call G_belongs (hr.mono (by omega)) (by rfl) g_belongs kp_belongs b_belongs .nil pass0 (pa_cons (pv 0) (pa_cons (pv 1) (pa_cons (pe_ix ix_seq (pv 2) pe_int (fun _ _ => rfl)) pa_nil)))))))) pss_nil)
      (pss_one (ps_ret (pe_or (pe_call G_belongs (hr.mono (by omega)) (by rfl) g_belongs kp_belongs b_belongs .nil pass0 (pa_cons (pv 0) (pa_cons (pv 1) (pa_cons (pe_ix ix_seq (pv 2) pe_int (fun _ _ => rfl)) pa_nil)))) (pe_one (pe_call G_belongs (hr.mono (by omega)) (by rfl) g_belongs kp_belongs b_belongs .nil pass0 (pa_cons (pv 0) (pa_cons (pv 1) (pa_cons (pe_ix ix_seq (pv 2) pe_int (fun _ _ => rfl)) pa_nil)))))))))))))),
    (simS_seq (simS_asg (sim_op rop_ix (simX_e sim_var) (simX_e sim_c_int)) simG_n)
      (simS_seq (simS_if (simT_test (sim_op rop_eq (simX_e sim_var) (simX_e sim_c_str))) (simS_ret sim_c_bl) simS_next)
      (simS_seq (simS_if (simT_test (sim_op rop_eq (simX_e sim_var) (simX_e sim_c_str))) (simS_ret sim_c_bl) simS_next)
      (simS_seq (simS_if (simT_test (sim_op rop_eq (simX_e sim_var) (simX_e sim_c_str))) (simS_ret (sim_op rop_eq (simX_e (sim_op rop_and (simX_e (sim_op rop_shr (simX_e sim_var) (simX_e (sim_idxT (sim_op rop_ix (simX_e sim_var) (simX_e sim_c_int)) (simX_e (sim_op rop_ix (simX_e sim_var) (simX_e sim_c_int))))))) (simX_e sim_c_int))) (simX_e sim_c_int))) simS_next)
      (simS_seq (simS_if (simT_test (sim_op rop_eq (simX_e sim_var) (simX_e sim_c_str))) (simS_ret (sim_notV (sim_call0 rfl (sim_cons (simX_e sim_var) (sim_cons (simX_e sim_var) (sim_cons (simX_e (sim_op rop_ix (simX_e sim_var) (simX_e sim_c_int))) sim_nil)))))) simS_next)
      (simS_seq (simS_if (simT_test (sim_op rop_eq (simX_e sim_var) (simX_e sim_c_str))) (simS_ret (sim_andV (sim_call0 rfl (sim_cons (simX_e sim_var) (sim_cons (simX_e sim_var) (sim_cons (simX_e (sim_op rop_ix (simX_e sim_var) (simX_e sim_c_int))) sim_nil)))) (sim_call0 rfl (sim_cons (simX_e sim_var) (sim_cons (simX_e sim_var) (sim_cons (simX_e (sim_op rop_ix (simX_e sim_var) (simX_e sim_c_int))) sim_nil)))))) simS_next)
      (simS_ret (sim_orV (sim_call0 rfl (sim_cons (simX_e sim_var) (sim_cons (simX_e sim_var) (sim_cons (simX_e (sim_op rop_ix (simX_e sim_var) (simX_e sim_c_int))) sim_nil)))) (sim_call0 rfl (sim_cons (simX_e sim_var) (sim_cons (simX_e sim_var) (sim_cons (simX_e (sim_op rop_ix (simX_e sim_var) (simX_e sim_c_int))) sim_nil))))))))))))⟩⟩
theorem ok_entry_of (X : K.In base) (G : base.Ns mainGlobals mg) (c : He.SaysD fa fn K) : Ok P w K mg base "entry_of" 1 ["entries", "account"] (sp0 K 2 m_entry_of) := by
  obtain ⟨fd, F⟩ := c.def_ 3 (d := d_entry_of) rfl
  have g := He.glo_ok X G (c.fact 3 (f := .glo "entry_of") rfl)
  exact ⟨_, fd, g, F.kp, (F.bindsN (ps := ["entries", "account"]) (fun _ _ _ _ _ _ us hl => match us, hl with | [_, _], _ => rfl)), fn0 F sc_entry_of fun cdv A outer s H E hr => ⟨_, PSs.nox (pss_cons (ps_for PassesOwn.never rfl (pi_seq (pv 0)) (pg_name (i := 2) sc_entry_of.nd rfl (Or.inl rfl)) (pss_one (ps_if (pt_cmpR (op_eqAll hr.units) (pe_ix ix_seq (pv 2) pe_int (fun _ _ => rfl)) (pv 1) (nomark _)) (pss_one (ps_ret (pe_ix ix_seq (pv 2) pe_int (fun _ _ => rfl)))) pss_nil)))
      (pss_one (ps_ret pe_int))),
    (simS_seq (simS_for (simI_seq sim_var) simG_n (simS_if (simT_test (sim_op rop_eq (simX_e (sim_op rop_ix (simX_e sim_var) (simX_e sim_c_int))) (simX_e sim_var))) (simS_ret (sim_op rop_ix (simX_e sim_var) (simX_e sim_c_int))) simS_next))
      (simS_ret sim_c_int))⟩⟩
theorem ok_terms_of (X : K.In base) (G : base.Ns mainGlobals mg) (c : He.SaysD fa fn K) : Ok P w K mg base "terms_of" 1 ["constraint"] (sp0 K 1 m_terms_of) := by
  obtain ⟨fd, F⟩ := c.def_ 4 (d := d_terms_of) rfl
  have g := He.glo_ok X G (c.fact 4 (f := .glo "terms_of") rfl)
  exact ⟨_, fd, g, F.kp, (F.bindsN (ps := ["constraint"]) (fun _ _ _ _ _ _ us hl => match us, hl with | [_], _ => rfl)), fn0 F sc_terms_of fun cdv A outer s H E hr => ⟨_, PSs.nox (pss_cons (ps_if (pt_cmpR (op_eqAll hr.units) (pe_ix ix_seq (pv 0) pe_int (fun _ _ => rfl)) pe_str (nomark _)) (pss_one (ps_ret (pe_ix ix_seq (pv 0) pe_int (fun _ _ => rfl)))) pss_nil)
      (pss_one (ps_ret (pe_ix ix_seq (pv 0) pe_int (fun _ _ => rfl))))),
    (simS_seq (simS_if (simT_test (sim_op rop_eq (simX_e (sim_op rop_ix (simX_e sim_var) (simX_e sim_c_int))) (simX_e sim_c_str))) (simS_ret (sim_op rop_ix (simX_e sim_var) (simX_e sim_c_int))) simS_next)
      (simS_ret (sim_op rop_ix (simX_e sim_var) (simX_e sim_c_int))))⟩⟩
theorem ok_added (X : K.In base) (G : base.Ns mainGlobals mg) (c : He.SaysD fa fn K) : Ok P w K mg base "added" 1 ["row", "amount", "entries"] (sp0 K 3 m_added) := by
  obtain ⟨fd, F⟩ := c.def_ 5 (d := d_added) rfl
  have g := He.glo_ok X G (c.fact 5 (f := .glo "added") rfl)
  have t_zip := He.free_ok X G (c.fact 62 (f := .free "zip") rfl)
  exact ⟨_, fd, g, F.kp, (F.bindsN (ps := ["row", "amount", "entries"]) (fun _ _ _ _ _ _ us hl => match us, hl with | [_, _, _], _ => rfl)), fn0 F sc_added fun cdv A outer s H E hr => ⟨_, PSs.nox (pss_one (ps_ret (pe_lc (own := [("balance", 3), ("entry", 4)]) (g := (gTup K 2 (gCons (gName 3) (gCons (gName 4) gNil)))) rfl sc_added.nd (pi_zipK (by rfl) t_zip (pa_cons (pv 0) (pa_cons (pv 2) pa_nil))) (blkOk_by (own := [("balance", 3), ("entry", 4)]) (by kernel_rfl)) (fun _ _ _ _ _ => (pg_tup rfl (pgs_cons (pg_name (i := 3) sc_added.nd rfl (Or.inl rfl)) (pgs_cons (pg_name (i := 4) sc_added.nd rfl (Or.inl rfl)) pgs_nil)))) (fun _ _ _ _ _ => pts_nil) (fun _ _ _ _ _ => (pe_op op_addAll (pv 3) (pe_op op_mulAll (pv 1) (pv 4))))))),
    (simS_ret (simN_e (simN_lc (simI_zip sim_var sim_var) (simG_t (simGs_cons simG_n (simGs_cons simG_n simGs_nil))) (by decide) simT_yes (sim_op rop_add (simX_e sim_var) (simX_e (sim_op rop_mul (simX_e sim_var) (simX_e sim_var)))))))⟩⟩
theorem ok_member_value (X : K.In base) (G : base.Ns mainGlobals mg) (c : He.SaysD fa fn K) : Ok P w K mg base "member_value" 1 ["model", "row", "terms"] (sp0 K 3 m_member_value) := by
  obtain ⟨fd, F⟩ := c.def_ 6 (d := d_member_value) rfl
  have g := He.glo_ok X G (c.fact 6 (f := .glo "member_value") rfl)
  have t_sum := He.free_ok X G (c.fact 63 (f := .free "sum") rfl)
  exact ⟨_, fd, g, F.kp, (F.bindsN (ps := ["model", "row", "terms"]) (fun _ _ _ _ _ _ us hl => match us, hl with | [_, _, _], _ => rfl)), fn0 F sc_member_value fun cdv A outer s H E hr => ⟨_, PSs.nox (pss_one (ps_ret (pe_callB (cr_sum rfl) (by rfl) t_sum bt_sum (pa_cons (pe_lc (own := [("number", 3), ("account", 4)]) (g := (gTup K 2 (gCons (gName 3) (gCons (gName 4) gNil)))) rfl sc_member_value.nd (pi_seq (pv 2)) (blkOk_by (own := [("number", 3), ("account", 4)]) (by kernel_rfl)) (fun _ _ _ _ _ => (pg_tup rfl (pgs_cons (pg_name (i := 3) sc_member_value.nd rfl (Or.inl rfl)) (pgs_cons (pg_name (i := 4) sc_member_value.nd rfl (Or.inl rfl)) pgs_nil)))) (fun _ _ _ _ _ => pts_nil) (fun _ _ _ _ _ => (pe_op op_mulAll (pv 3) (pe_ix ix_seq (pv 1) (pe_tm PySem.F.plainAttrs_tuple PySem.F.slot_tuple_index PySem.F.type_tuple_index mt_idxT (pe_ix ix_seq (pv 0) pe_int (fun _ _ => rfl)) (pa_cons (pv 4) pa_nil)) (fun _ _ => rfl))))) pa_nil)))),
    (simS_ret (sim_cb rcl_sum (sim_cons (simX_e (simN_e (simN_lc (simI_seq sim_var) (simG_t (simGs_cons simG_n (simGs_cons simG_n simGs_nil))) (by decide) simT_yes (sim_op rop_mul (simX_e sim_var) (simX_e (sim_op rop_ix (simX_e sim_var) (simX_e (sim_idxT (sim_op rop_ix (simX_e sim_var) (simX_e sim_c_int)) (simX_e sim_var))))))))) sim_nil)))⟩⟩
theorem ok__law_tape (X : K.In base) (G : base.Ns mainGlobals mg) (c : He.SaysD fa fn K) : Ok P w K mg base "_law_tape" 1 ["script"] (spN K 1 m__law_tape) := by
  obtain ⟨fd, F⟩ := c.def_ 7 (d := d__law_tape) rfl
  have g := He.glo_ok X G (c.fact 7 (f := .glo "_law_tape") rfl)
  have t_int := He.free_ok X G (c.fact 64 (f := .free "int") rfl)
  have t_abs := He.free_ok X G (c.fact 65 (f := .free "abs") rfl)
  have t_list := He.free_ok X G (c.fact 66 (f := .free "list") rfl)
  exact ⟨_, fd, g, F.kp, (F.bindsN (ps := ["script"]) (fun _ _ _ _ _ _ us hl => match us, hl with | [_], _ => rfl)), fnN F sc__law_tape fun cdv A outer s H E hr => ⟨_, PSs.nox (pss_cons (ps_set (i := 1) sc__law_tape.nd rfl (Or.inl rfl) pe_int)
      (pss_cons (ps_for PassesOwn.never rfl (pi_seq (pv 0)) (pg_name (i := 2) sc__law_tape.nd rfl (Or.inl rfl)) (pss_one (ps_set (i := 1) sc__law_tape.nd rfl (Or.inl rfl) (pe_op op_mod (pe_callTy call_int1 (by rfl) t_int bt_int (pa_cons (pe_op op_addAll (pe_op op_mulAll (pv 1) pe_int) (pe_callB call_abs (by rfl) t_abs bt_abs (pa_cons (pe_callTy call_int1 (by rfl) t_int bt_int (pa_cons (pv 2) pa_nil)) pa_nil))) pa_nil)) pe_int))))
      (pss_one (ps_ret (pe_lst (pa_cons (pe_callTy (call_listA rfl) (by rfl) t_list bt_list (pa_cons (pv 0) pa_nil)) (pa_cons pe_int (pa_cons pe_int (pa_cons (pv 1) pa_nil))))))))),
    (simS_seq (simS_asg sim_c_int simG_n)
      (simS_seq (simS_for (simI_seq sim_var) simG_n (simS_asg (sim_op rop_mod (simX_e (sim_cb rcl_int (sim_cons (simX_e (sim_op rop_add (simX_e (sim_op rop_mul (simX_e sim_var) (simX_e sim_c_int))) (simX_e (sim_cb rcl_abs (sim_cons (simX_e (sim_cb rcl_int (sim_cons (simX_e sim_var) sim_nil))) sim_nil))))) sim_nil))) (simX_e sim_c_int)) simG_n))
      (simS_retO (simN_lst (Nat.le_of_ble_eq_true rfl) (sim_cons (simX_e (simN_e (simN_listA (sim_cons (simX_e sim_var) sim_nil)))) (sim_cons (simX_e sim_c_int) (sim_cons (simX_e sim_c_int) (sim_cons (simX_e sim_var) sim_nil))))))))⟩⟩
theorem ok__law_draw (X : K.In base) (G : base.Ns mainGlobals mg) (c : He.SaysD fa fn K) : Ok P w K mg base "_law_draw" 1 ["tape", "many"] (sp1 K 1 m__law_draw) := by
  obtain ⟨fd, F⟩ := c.def_ 8 (d := d__law_draw) rfl
  have g := He.glo_ok X G (c.fact 8 (f := .glo "_law_draw") rfl)
  have t_len := He.free_ok X G (c.fact 67 (f := .free "len") rfl)
  have t_abs := He.free_ok X G (c.fact 65 (f := .free "abs") rfl)
  have t_int := He.free_ok X G (c.fact 64 (f := .free "int") rfl)
  have t_max := He.free_ok X G (c.fact 68 (f := .free "max") rfl)
  exact ⟨_, fd, g, F.kp, (F.bindsN (ps := ["tape", "many"]) (fun _ _ _ _ _ _ us hl => match us, hl with | [_, _], _ => rfl)), fn1 F sc__law_draw fun cdv A outer s H E hr => ⟨_, PSs.nox (pss_cons (ps_if (pt_cmpR (op_eqAll hr.units) (pe_ix ix_seq (pv 0) pe_int (fun _ _ => rfl)) pe_int (nomark _)) (pss_cons (ps_set (i := 2) sc__law_draw.nd rfl (Or.inl rfl) (pe_ix ix_seq (pv 0) pe_int (fun _ _ => rfl)))
      (pss_cons (ps_set (i := 3) sc__law_draw.nd rfl (Or.inl rfl) pe_int)
      (pss_cons (ps_if (pt_cmpR op_lt (pv 2) (pe_callB call_lenAll (by rfl) t_len bt_len (pa_cons (pe_ix ix_seq (pv 0) pe_int (fun _ _ => rfl)) pa_nil)) (nomark _)) (pss_one (ps_set (i := 3) sc__law_draw.nd rfl (Or.inl rfl) (pe_callB call_abs (by rfl) t_abs bt_abs (pa_cons (pe_callTy call_int1 (by rfl) t_int bt_int (pa_cons (pe_ix ix_seq (pe_ix ix_seq (pv 0) pe_int (fun _ _ => rfl)) (pv 2) (fun _ _ => rfl)) pa_nil)) pa_nil)))) (pss_cons (ps_asg (pe_op op_mod (pe_callTy call_int1 (by rfl) t_int bt_int (pa_cons (pe_op op_addAll (pe_op op_addAll (pe_op op_mulAll (pe_ix ix_seq (pv 0) pe_int (fun _ _ => rfl)) pe_int) (pv 2)) pe_int) pa_nil)) pe_int) (pg_sub (pv 0) pe_int set_list))
      (pss_one (ps_set (i := 3) sc__law_draw.nd rfl (Or.inl rfl) (pe_ix ix_seq (pv 0) pe_int (fun _ _ => rfl))))))
      (pss_cons (ps_asg (pe_op op_addAll (pv 2) pe_int) (pg_sub (pv 0) pe_int set_list))
      (pss_cons (ps_if (pt_cmpR op_lt (pv 3) (pe_op op_pow pe_int pe_int) (nomark _)) (pss_cons (ps_set (i := 3) sc__law_draw.nd rfl (Or.inl rfl) (pe_op op_mod (pe_callTy call_int1 (by rfl) t_int bt_int (pa_cons (pe_op op_addAll (pe_op op_addAll (pe_op op_mulAll (pv 3) pe_int) (pe_op op_mulAll (pv 2) pe_int)) pe_int) pa_nil)) pe_int))
      (pss_cons (ps_set (i := 3) sc__law_draw.nd rfl (Or.inl rfl) (pe_op op_mod (pe_callTy call_int1 (by rfl) t_int bt_int (pa_cons (pe_op op_mulAll (pv 3) pe_int) pa_nil)) pe_int))
      (pss_one (ps_ret (pe_op op_mod (pe_callTy call_int1 (by rfl) t_int bt_int (pa_cons (pv 3) pa_nil)) (pe_callB (call_max2 rfl) (by rfl) t_max bt_max (pa_cons (pv 1) (pa_cons pe_int pa_nil)))))))) pss_nil)
      (pss_one (ps_asg (pv 3) (pg_sub (pv 0) pe_int set_list)))))))) pss_nil)
      (pss_cons (ps_set (i := 3) sc__law_draw.nd rfl (Or.inl rfl) (pe_ix ix_seq (pv 0) pe_int (fun _ _ => rfl)))
      (pss_cons (ps_asg (pe_op op_fdivW (pv 3) (pe_callB (call_max2 rfl) (by rfl) t_max bt_max (pa_cons (pv 1) (pa_cons pe_int pa_nil)))) (pg_sub (pv 0) pe_int set_list))
      (pss_one (ps_ret (pe_op op_mod (pe_callTy call_int1 (by rfl) t_int bt_int (pa_cons (pv 3) pa_nil)) (pe_callB (call_max2 rfl) (by rfl) t_max bt_max (pa_cons (pv 1) (pa_cons pe_int pa_nil))))))))),
    (simS_seq (simS_if (simT_test (sim_op rop_eq (simX_e (sim_op rop_ix simX_s (simX_e sim_c_int))) (simX_e sim_c_int))) (simS_seq (simS_asg (sim_op rop_ix simX_s (simX_e sim_c_int)) simG_n)
      (simS_seq (simS_asg sim_c_int simG_n)
      (simS_seq (simS_if (simT_test (sim_op rop_lt (simX_e sim_var) (simX_e (sim_cb rcl_len (sim_cons (simX_e (sim_op rop_ix simX_s (simX_e sim_c_int))) sim_nil))))) (simS_asg (sim_cb rcl_abs (sim_cons (simX_e (sim_cb rcl_int (sim_cons (simX_e (sim_op rop_ix (simX_e (sim_op rop_ix simX_s (simX_e sim_c_int))) (simX_e sim_var))) sim_nil))) sim_nil)) simG_n) (simS_seq (simS_set sim_c_int (sim_op rop_mod (simX_e (sim_cb rcl_int (sim_cons (simX_e (sim_op rop_add (simX_e (sim_op rop_add (simX_e (sim_op rop_mul (simX_e (sim_op rop_ix simX_s (simX_e sim_c_int))) (simX_e sim_c_int))) (simX_e sim_var))) (simX_e sim_c_int))) sim_nil))) (simX_e sim_c_int)))
      (simS_asg (sim_op rop_ix simX_s (simX_e sim_c_int)) simG_n)))
      (simS_seq (simS_set sim_c_int (sim_op rop_add (simX_e sim_var) (simX_e sim_c_int)))
      (simS_seq (simS_if (simT_test (sim_op rop_lt (simX_e sim_var) (simX_e (sim_op rop_pow (simX_e sim_c_int) (simX_e sim_c_int))))) (simS_seq (simS_asg (sim_op rop_mod (simX_e (sim_cb rcl_int (sim_cons (simX_e (sim_op rop_add (simX_e (sim_op rop_add (simX_e (sim_op rop_mul (simX_e sim_var) (simX_e sim_c_int))) (simX_e (sim_op rop_mul (simX_e sim_var) (simX_e sim_c_int))))) (simX_e sim_c_int))) sim_nil))) (simX_e sim_c_int)) simG_n)
      (simS_seq (simS_asg (sim_op rop_mod (simX_e (sim_cb rcl_int (sim_cons (simX_e (sim_op rop_mul (simX_e sim_var) (simX_e sim_c_int))) sim_nil))) (simX_e sim_c_int)) simG_n)
      (simS_ret (sim_op rop_mod (simX_e (sim_cb rcl_int (sim_cons (simX_e sim_var) sim_nil))) (simX_e (sim_cb rcl_max2 (sim_cons (simX_e sim_var) (sim_cons (simX_e sim_c_int) sim_nil)))))))) simS_next)
      (simS_set sim_c_int sim_var)))))) simS_next)
      (simS_seq (simS_asg (sim_op rop_ix simX_s (simX_e sim_c_int)) simG_n)
      (simS_seq (simS_set sim_c_int (sim_op rop_fdiv (simX_e sim_var) (simX_e (sim_cb rcl_max2 (sim_cons (simX_e sim_var) (sim_cons (simX_e sim_c_int) sim_nil))))))
      (simS_ret (sim_op rop_mod (simX_e (sim_cb rcl_int (sim_cons (simX_e sim_var) sim_nil))) (simX_e (sim_cb rcl_max2 (sim_cons (simX_e sim_var) (sim_cons (simX_e sim_c_int) sim_nil)))))))))⟩⟩
theorem ok__law_same (n : Nat) (X : K.In base) (G : base.Ns mainGlobals mg) (c : He.SaysD fa fn K) : Ok P w K mg base "_law_same" (n + 1) ["actual", "expected"] (sp0 K 2 (m__law_same n)) := by
  induction n with
  | zero =>
    obtain ⟨fd, F⟩ := c.def_ 9 (d := d__law_same) rfl
    have g := He.glo_ok X G (c.fact 9 (f := .glo "_law_same") rfl)
    exact ⟨_, fd, g, F.kp, (F.bindsN (ps := ["actual", "expected"]) (fun _ _ _ _ _ _ us hl => match us, hl with | [_, _], _ => rfl)), none0 F sc__law_same⟩
  | succ n ih =>
    obtain ⟨fd, F⟩ := c.def_ 9 (d := d__law_same) rfl
    have g := He.glo_ok X G (c.fact 9 (f := .glo "_law_same") rfl)
    have t_isinstance := He.free_ok X G (c.fact 69 (f := .free "isinstance") rfl)
    have t_tuple := He.free_ok X G (c.fact 70 (f := .free "tuple") rfl)
    have t_len := He.free_ok X G (c.fact 67 (f := .free "len") rfl)
    have t_range := He.free_ok X G (c.fact 71 (f := .free "range") rfl)
    have t_bool := He.free_ok X G (c.fact 72 (f := .free "bool") rfl)
    have t_str := He.free_ok X G (c.fact 73 (f := .free "str") rfl)
    have t_int := He.free_ok X G (c.fact 64 (f := .free "int") rfl)
    obtain ⟨⟨f__law_same, fd__law_same, g__law_same, kp__law_same, b__law_same, G__law_same⟩⟩ := ih
    exact ⟨_, fd, g, F.kp, (F.bindsN (ps := ["actual", "expected"]) (fun _ _ _ _ _ _ us hl => match us, hl with | [_, _], _ => rfl)), fn0 F sc__law_same fun cdv A outer s H E hr => ⟨_, PSs.nox (pss_cons (ps_if (pt_cmpR op_isN (pv 1) pe_non (nomark _)) (pss_one (ps_ret (pe_cmpR op_isN (pv 0) pe_non (nomark _)))) pss_nil)
      (pss_cons (ps_if (pt_truth (pe_callB call_isi (by rfl) t_isinstance bt_isinstance (pa_cons (pv 1) (pa_cons (pe_bltn (v := .ty "tuple") (by rfl) t_tuple bt_tuple rfl) pa_nil))) (fun _ => rfl)) (pss_cons (ps_if (PW.pt (pw_or (pt_not (pt_truth (pe_callB call_isi (by rfl) t_isinstance bt_isinstance (pa_cons (pv 0) (pa_cons (pe_bltn (v := .ty "tuple") (by rfl) t_tuple bt_tuple rfl) pa_nil))) (fun _ => rfl))) (pw_or1 (pt_cmpR (op_neAll hr.units) (pe_callB call_lenAll (by rfl) t_len bt_len (pa_cons (pv 0) pa_nil)) (pe_callB call_lenAll (by rfl) t_len bt_len (pa_cons (pv 1) pa_nil)) (nomark _))))) (pss_one (ps_ret pe_bl)) pss_nil)
      (pss_cons (ps_for PassesOwn.never rfl (pi_range1 (by rfl) t_range (pa_cons (pe_callB call_lenAll (by rfl) t_len bt_len (pa_cons (pv 1) pa_nil)) pa_nil)) (pg_name (i := 2) sc__law_same.nd rfl (Or.inl rfl)) (pss_one (ps_if (pt_not (pt_truth (pe_call G__law_same (hr.mono (by omega)) (by rfl) g__law_same kp__law_same b__law_same .nil pass0 (pa_cons (pe_ix ix_seq (pv 0) (pv 2) (fun _ _ => rfl)) (pa_cons (pe_ix ix_seq (pv 1) (pv 2) (fun _ _ => rfl)) pa_nil))) (fun _ => rfl))) (pss_one (ps_ret pe_bl)) pss_nil)))
      (pss_one (ps_ret pe_bl)))) pss_nil)
      (pss_cons (ps_if (pt_truth (pe_callB call_isi (by rfl) t_isinstance bt_isinstance (pa_cons (pv 1) (pa_cons (pe_bltn (v := .ty "bool") (by rfl) t_bool bt_bool rfl) pa_nil))) (fun _ => rfl)) (pss_one (ps_ret (pe_and (pe_callB call_isi (by rfl) t_isinstance bt_isinstance (pa_cons (pv 0) (pa_cons (pe_bltn (v := .ty "bool") (by rfl) t_bool bt_bool rfl) pa_nil))) (pe_one (pe_cmpR (op_eqAll hr.units) (pv 0) (pv 1) (nomark _)))))) pss_nil)
      (pss_cons (ps_if (pt_truth (pe_callB call_isi (by rfl) t_isinstance bt_isinstance (pa_cons (pv 1) (pa_cons (pe_bltn (v := .ty "str") (by rfl) t_str bt_str rfl) pa_nil))) (fun _ => rfl)) (pss_one (ps_ret (pe_and (pe_callB call_isi (by rfl) t_isinstance bt_isinstance (pa_cons (pv 0) (pa_cons (pe_bltn (v := .ty "str") (by rfl) t_str bt_str rfl) pa_nil))) (pe_one (pe_cmpR (op_eqAll hr.units) (pv 0) (pv 1) (nomark _)))))) pss_nil)
      (pss_one (ps_ret (pe_and (pe_callB call_isi (by rfl) t_isinstance bt_isinstance (pa_cons (pv 0) (pa_cons (pe_bltn (v := .ty "int") (by rfl) t_int bt_int rfl) pa_nil))) (pe_and (pe_not (pe_callB call_isi (by rfl) t_isinstance bt_isinstance (pa_cons (pv 0) (pa_cons (pe_bltn (v := .ty "bool") (by rfl) t_bool bt_bool rfl) pa_nil)))) (pe_one (pe_cmpR (op_eqAll hr.units) (pv 0) (pv 1) (nomark _))))))))))),
    (simS_seq (simS_if (simT_test (sim_op rop_isN (simX_e sim_var) (simX_e sim_c_non))) (simS_ret (sim_op rop_isN (simX_e sim_var) (simX_e sim_c_non))) simS_next)
      (simS_seq (simS_if (simT_tru (simX_e (sim_cb rop_isi (sim_cons (simX_e sim_var) (sim_cons (simX_e sim_c_ty) sim_nil))))) (simS_seq (simS_if (simT_or (simT_not (simT_tru (simX_e (sim_cb rop_isi (sim_cons (simX_e sim_var) (sim_cons (simX_e sim_c_ty) sim_nil)))))) (simT_test (sim_op rop_ne (simX_e (sim_cb rcl_len (sim_cons (simX_e sim_var) sim_nil))) (simX_e (sim_cb rcl_len (sim_cons (simX_e sim_var) sim_nil)))))) (simS_ret sim_c_bl) simS_next)
      (simS_seq (simS_for (simI_rng1 (sim_cons (simX_e (sim_cb rcl_len (sim_cons (simX_e sim_var) sim_nil))) sim_nil)) simG_n (simS_if (simT_not (simT_tru (simX_e (sim_call0 rfl (sim_cons (simX_e (sim_op rop_ix (simX_e sim_var) (simX_e sim_var))) (sim_cons (simX_e (sim_op rop_ix (simX_e sim_var) (simX_e sim_var))) sim_nil)))))) (simS_ret sim_c_bl) simS_next))
      (simS_ret sim_c_bl))) simS_next)
      (simS_seq (simS_if (simT_tru (simX_e (sim_cb rop_isi (sim_cons (simX_e sim_var) (sim_cons (simX_e sim_c_ty) sim_nil))))) (simS_ret (sim_andV (sim_cb rop_isi (sim_cons (simX_e sim_var) (sim_cons (simX_e sim_c_ty) sim_nil))) (sim_op rop_eq (simX_e sim_var) (simX_e sim_var)))) simS_next)
      (simS_seq (simS_if (simT_tru (simX_e (sim_cb rop_isi (sim_cons (simX_e sim_var) (sim_cons (simX_e sim_c_ty) sim_nil))))) (simS_ret (sim_andV (sim_cb rop_isi (sim_cons (simX_e sim_var) (sim_cons (simX_e sim_c_ty) sim_nil))) (sim_op rop_eq (simX_e sim_var) (simX_e sim_var)))) simS_next)
      (simS_ret (sim_andV (sim_cb rop_isi (sim_cons (simX_e sim_var) (sim_cons (simX_e sim_c_ty) sim_nil))) (sim_andV (sim_notV (sim_cb rop_isi (sim_cons (simX_e sim_var) (sim_cons (simX_e sim_c_ty) sim_nil)))) (sim_op rop_eq (simX_e sim_var) (simX_e sim_var)))))))))⟩⟩
theorem ok__law_letters (X : K.In base) (G : base.Ns mainGlobals mg) (c : He.SaysD fa fn K) : Ok P w K mg base "_law_letters" 1 [] (sp0 K 0 m__law_letters) := by
  obtain ⟨fd, F⟩ := c.def_ 10 (d := d__law_letters) rfl
  have g := He.glo_ok X G (c.fact 10 (f := .glo "_law_letters") rfl)
  exact ⟨_, fd, g, F.kp, (F.bindsN (ps := []) (fun _ _ _ _ _ _ us hl => match us, hl with | [], _ => rfl)), fn0 F sc__law_letters fun cdv A outer s H E hr => ⟨_, PSs.nox (pss_one (ps_ret pe_str)),
    (simS_ret sim_c_str)⟩⟩
theorem ok__law_reserved (X : K.In base) (G : base.Ns mainGlobals mg) (c : He.SaysD fa fn K) : Ok P w K mg base "_law_reserved" 1 [] (sp0 K 0 m__law_reserved) := by
  obtain ⟨fd, F⟩ := c.def_ 11 (d := d__law_reserved) rfl
  have g := He.glo_ok X G (c.fact 11 (f := .glo "_law_reserved") rfl)
  exact ⟨_, fd, g, F.kp, (F.bindsN (ps := []) (fun _ _ _ _ _ _ us hl => match us, hl with | [], _ => rfl)), fn0 F sc__law_reserved fun cdv A outer s H E hr => ⟨_, PSs.nox (pss_cons (ps_set (i := 0) sc__law_reserved.nd rfl (Or.inl rfl) pe_str)
      (pss_cons (ps_set (i := 0) sc__law_reserved.nd rfl (Or.inl rfl) (pe_op op_addAll (pv 0) pe_str))
      (pss_one (ps_ret (pe_split (pv 0) pe_str))))),
    (simS_seq (simS_asg sim_c_str simG_n)
      (simS_seq (simS_asg (sim_op rop_add (simX_e sim_var) (simX_e sim_c_str)) simG_n)
      (simS_ret (sim_m1 rstr_split sim_var (simX_e sim_c_str)))))⟩⟩
theorem ok__law_sets (X : K.In base) (G : base.Ns mainGlobals mg) (c : He.SaysD fa fn K) : Ok P w K mg base "_law_sets" 1 ["sectors"] (sp0 K 1 m__law_sets) := by
  obtain ⟨fd, F⟩ := c.def_ 12 (d := d__law_sets) rfl
  have g := He.glo_ok X G (c.fact 12 (f := .glo "_law_sets") rfl)
  exact ⟨_, fd, g, F.kp, (F.bindsN (ps := ["sectors"]) (fun _ _ _ _ _ _ us hl => match us, hl with | [_], _ => rfl)), fn0 F sc__law_sets fun cdv A outer s H E hr => ⟨_, PSs.nox (pss_cons (ps_set (i := 1) sc__law_sets.nd rfl (Or.inl rfl) (pe_lst (pa_cons (pe_tupF pa_nil) pa_nil)))
      (pss_cons (ps_for PassesOwn.never rfl (pi_seq (pv 0)) (pg_name (i := 2) sc__law_sets.nd rfl (Or.inr rfl)) (pss_one (ps_set (i := 1) sc__law_sets.nd rfl (Or.inl rfl) (pe_op op_addAll (pv 1) (pe_lc (own := [("row", 3)]) (g := (gName 3)) rfl sc__law_sets.nd (pi_seq (pv 1)) (blkOk_by (own := [("row", 3)]) (by kernel_rfl)) (fun _ _ _ _ _ => (pg_name (i := 3) sc__law_sets.nd rfl (Or.inl rfl))) (fun _ _ _ _ _ => pts_nil) (fun _ _ _ _ _ => (pe_op op_addAll (pv 3) (pe_tupF (pa_cons (pv 2) pa_nil)))))))))
      (pss_one (ps_ret (pv 1))))),
    (simS_seq (simS_asg (simN_e (simN_lst (Nat.le_of_ble_eq_true rfl) (sim_cons (simX_e (sim_tup (Nat.le_of_ble_eq_true rfl) sim_nil)) sim_nil))) simG_n)
      (simS_seq (simS_for (simI_seq sim_var) simG_n (simS_asg (sim_op rop_add (simX_e sim_var) (simX_e (simN_e (simN_lc (simI_seq sim_var) simG_n (by decide) simT_yes (sim_op rop_add (simX_e sim_var) (simX_e (sim_tup (Nat.le_of_ble_eq_true rfl) (sim_cons (simX_e sim_var) sim_nil)))))))) simG_n))
      (simS_ret sim_var)))⟩⟩
theorem ok__law_member (n : Nat) (X : K.In base) (G : base.Ns mainGlobals mg) (c : He.SaysD fa fn K) : Ok P w K mg base "_law_member" (n + 1) ["sector", "names"] (sp0 K 2 (m__law_member n)) := by
  induction n with
  | zero =>
    obtain ⟨fd, F⟩ := c.def_ 13 (d := d__law_member) rfl
    have g := He.glo_ok X G (c.fact 13 (f := .glo "_law_member") rfl)
    exact ⟨_, fd, g, F.kp, (F.bindsN (ps := ["sector", "names"]) (fun _ _ _ _ _ _ us hl => match us, hl with | [_, _], _ => rfl)), none0 F sc__law_member⟩
  | succ n ih =>
    obtain ⟨fd, F⟩ := c.def_ 13 (d := d__law_member) rfl
    have g := He.glo_ok X G (c.fact 13 (f := .glo "_law_member") rfl)
    obtain ⟨⟨f__law_member, fd__law_member, g__law_member, kp__law_member, b__law_member, G__law_member⟩⟩ := ih
    exact ⟨_, fd, g, F.kp, (F.bindsN (ps := ["sector", "names"]) (fun _ _ _ _ _ _ us hl => match us, hl with | [_, _], _ => rfl)), fn0 F sc__law_member fun cdv A outer s H E hr => ⟨_, PSs.nox (pss_cons (ps_if (pt_cmpR (op_eqAll hr.units) (pe_ix ix_seq (pv 0) pe_int (fun _ _ => rfl)) pe_str (nomark _)) (pss_one (ps_ret (pe_cmpR op_in_seq (pe_ix ix_seq (pv 0) pe_int (fun _ _ => rfl)) (pv 1) rfl))) pss_nil)
      (pss_cons (ps_if (pt_cmpR (op_eqAll hr.units) (pe_ix ix_seq (pv 0) pe_int (fun _ _ => rfl)) pe_str (nomark _)) (pss_one (ps_ret (pe_not (pe_call G__law_member (hr.mono (by omega)) (by rfl) g__law_member kp__law_member b__law_member .nil pass0 (pa_cons (pe_ix ix_seq (pv 0) pe_int (fun _ _ => rfl)) (pa_cons (pv 1) pa_nil)))))) pss_nil)
      (pss_cons (ps_if (pt_cmpR (op_eqAll hr.units) (pe_ix ix_seq (pv 0) pe_int (fun _ _ => rfl)) pe_str (nomark _)) (pss_one (ps_ret (pe_and (pe_call G__law_member (hr.mono (by omega)) (by rfl) g__law_member kp__law_member b__law_member .nil pass0 (pa_cons (pe_ix ix_seq (pv 0) pe_int (fun _ _ => rfl)) (pa_cons (pv 1) pa_nil))) (pe_one (pe_call G__law_member (hr.mono (by omega)) (by rfl) g__law_member kp__law_member b__law_member .nil pass0 (pa_cons (pe_ix ix_seq (pv 0) pe_int (fun _ _ => rfl)) (pa_cons (pv 1) pa_nil))))))) pss_nil)
      (pss_cons (ps_if (pt_cmpR (op_eqAll hr.units) (pe_ix ix_seq (pv 0) pe_int (fun _ _ => rfl)) pe_str (nomark _)) (pss_one (ps_ret (pe_or (pe_call G__law_member (hr.mono (by omega)) (by rfl) g__law_member kp__law_member b__law_member .nil pass0 (pa_cons (pe_ix ix_seq (pv 0) pe_int (fun _ _ => rfl)) (pa_cons (pv 1) pa_nil))) (pe_one (pe_call G__law_member (hr.mono (by omega)) (by rfl) g__law_member kp__law_member b__law_member .nil pass0 (pa_cons (pe_ix ix_seq (pv 0) pe_int (fun _ _ => rfl)) (pa_cons (pv 1) pa_nil))))))) pss_nil)
      (pss_one (ps_ret (pe_cmpR (op_eqAll hr.units) (pe_ix ix_seq (pv 0) pe_int (fun _ _ => rfl)) pe_str (nomark _)))))))),
    (simS_seq (simS_if (simT_test (sim_op rop_eq (simX_e (sim_op rop_ix (simX_e sim_var) (simX_e sim_c_int))) (simX_e sim_c_str))) (simS_ret (sim_op rop_in (simX_e (sim_op rop_ix (simX_e sim_var) (simX_e sim_c_int))) (simX_e sim_var))) simS_next)
      (simS_seq (simS_if (simT_test (sim_op rop_eq (simX_e (sim_op rop_ix (simX_e sim_var) (simX_e sim_c_int))) (simX_e sim_c_str))) (simS_ret (sim_notV (sim_call0 rfl (sim_cons (simX_e (sim_op rop_ix (simX_e sim_var) (simX_e sim_c_int))) (sim_cons (simX_e sim_var) sim_nil))))) simS_next)
      (simS_seq (simS_if (simT_test (sim_op rop_eq (simX_e (sim_op rop_ix (simX_e sim_var) (simX_e sim_c_int))) (simX_e sim_c_str))) (simS_ret (sim_andV (sim_call0 rfl (sim_cons (simX_e (sim_op rop_ix (simX_e sim_var) (simX_e sim_c_int))) (sim_cons (simX_e sim_var) sim_nil))) (sim_call0 rfl (sim_cons (simX_e (sim_op rop_ix (simX_e sim_var) (simX_e sim_c_int))) (sim_cons (simX_e sim_var) sim_nil))))) simS_next)
      (simS_seq (simS_if (simT_test (sim_op rop_eq (simX_e (sim_op rop_ix (simX_e sim_var) (simX_e sim_c_int))) (simX_e sim_c_str))) (simS_ret (sim_orV (sim_call0 rfl (sim_cons (simX_e (sim_op rop_ix (simX_e sim_var) (simX_e sim_c_int))) (sim_cons (simX_e sim_var) sim_nil))) (sim_call0 rfl (sim_cons (simX_e (sim_op rop_ix (simX_e sim_var) (simX_e sim_c_int))) (sim_cons (simX_e sim_var) sim_nil))))) simS_next)
      (simS_ret (sim_op rop_eq (simX_e (sim_op rop_ix (simX_e sim_var) (simX_e sim_c_int))) (simX_e sim_c_str)))))))⟩⟩
theorem ok__law_negated (X : K.In base) (G : base.Ns mainGlobals mg) (c : He.SaysD fa fn K) : Ok P w K mg base "_law_negated" 1 ["entries"] (sp0 K 1 m__law_negated) := by
  obtain ⟨fd, F⟩ := c.def_ 14 (d := d__law_negated) rfl
  have g := He.glo_ok X G (c.fact 14 (f := .glo "_law_negated") rfl)
  have t_tuple := He.free_ok X G (c.fact 70 (f := .free "tuple") rfl)
  exact ⟨_, fd, g, F.kp, (F.bindsN (ps := ["entries"]) (fun _ _ _ _ _ _ us hl => match us, hl with | [_], _ => rfl)), fn0 F sc__law_negated fun cdv A outer s H E hr => ⟨_, PSs.nox (pss_one (ps_ret (pe_callTy call_tuple_ofF (by rfl) t_tuple bt_tuple (pa_cons (pe_lc (own := [("entry", 1)]) (g := (gName 1)) rfl sc__law_negated.nd (pi_seq (pv 0)) (blkOk_by (own := [("entry", 1)]) (by kernel_rfl)) (fun _ _ _ _ _ => (pg_name (i := 1) sc__law_negated.nd rfl (Or.inl rfl))) (fun _ _ _ _ _ => pts_nil) (fun _ _ _ _ _ => (pe_tupF (pa_cons (pe_ix ix_seq (pv 1) pe_int (fun _ _ => rfl)) (pa_cons (pe_un un_neg (pe_ix ix_seq (pv 1) pe_int (fun _ _ => rfl))) pa_nil))))) pa_nil)))),
    (simS_ret (sim_cb rcl_tup (sim_cons (simX_e (simN_e (simN_lc (simI_seq sim_var) simG_n (by decide) simT_yes (sim_tup (Nat.le_of_ble_eq_true rfl) (sim_cons (simX_e (sim_op rop_ix (simX_e sim_var) (simX_e sim_c_int))) (sim_cons (simX_e (sim_un run_neg (simX_e (sim_op rop_ix (simX_e sim_var) (simX_e sim_c_int))))) sim_nil)))))) sim_nil)))⟩⟩
theorem ok__law_taken (X : K.In base) (G : base.Ns mainGlobals mg) (c : He.SaysD fa fn K) : Ok P w K mg base "_law_taken" 1 ["model"] (sp0 K 1 m__law_taken) := by
  obtain ⟨fd, F⟩ := c.def_ 15 (d := d__law_taken) rfl
  have g := He.glo_ok X G (c.fact 15 (f := .glo "_law_taken") rfl)
  exact ⟨_, fd, g, F.kp, (F.bindsN (ps := ["model"]) (fun _ _ _ _ _ _ us hl => match us, hl with | [_], _ => rfl)), fn0 F sc__law_taken fun cdv A outer s H E hr => ⟨_, PSs.nox (pss_one (ps_ret (pe_lc (own := [("row", 1)]) (g := (gName 1)) rfl sc__law_taken.nd (pi_seq (pe_op op_addAll (pe_op op_addAll (pe_ix ix_seq (pv 0) pe_int (fun _ _ => rfl)) (pe_ix ix_seq (pv 0) pe_int (fun _ _ => rfl))) (pe_ix ix_seq (pv 0) pe_int (fun _ _ => rfl)))) (blkOk_by (own := [("row", 1)]) (by kernel_rfl)) (fun _ _ _ _ _ => (pg_name (i := 1) sc__law_taken.nd rfl (Or.inl rfl))) (fun _ _ _ _ _ => pts_nil) (fun _ _ _ _ _ => (pe_ix ix_seq (pv 1) pe_int (fun _ _ => rfl)))))),
    (simS_ret (simN_e (simN_lc (simI_seq (sim_op rop_add (simX_e (sim_op rop_add (simX_e (sim_op rop_ix (simX_e sim_var) (simX_e sim_c_int))) (simX_e (sim_op rop_ix (simX_e sim_var) (simX_e sim_c_int))))) (simX_e (sim_op rop_ix (simX_e sim_var) (simX_e sim_c_int))))) simG_n (by decide) simT_yes (sim_op rop_ix (simX_e sim_var) (simX_e sim_c_int)))))⟩⟩
theorem ok__law_ordered (X : K.In base) (G : base.Ns mainGlobals mg) (c : He.SaysD fa fn K) : Ok P w K mg base "_law_ordered" 1 ["model", "names"] (sp0 K 2 m__law_ordered) := by
  obtain ⟨fd, F⟩ := c.def_ 16 (d := d__law_ordered) rfl
  have g := He.glo_ok X G (c.fact 16 (f := .glo "_law_ordered") rfl)
  have t_tuple := He.free_ok X G (c.fact 70 (f := .free "tuple") rfl)
  exact ⟨_, fd, g, F.kp, (F.bindsN (ps := ["model", "names"]) (fun _ _ _ _ _ _ us hl => match us, hl with | [_, _], _ => rfl)), fn0 F sc__law_ordered fun cdv A outer s H E hr => ⟨_, PSs.nox (pss_one (ps_ret (pe_callTy call_tuple_ofF (by rfl) t_tuple bt_tuple (pa_cons (pe_lc (own := [("name", 2)]) (g := (gName 2)) rfl sc__law_ordered.nd (pi_seq (pe_ix ix_seq (pv 0) pe_int (fun _ _ => rfl))) (blkOk_by (own := [("name", 2)]) (by kernel_rfl)) (fun _ _ _ _ _ => (pg_name (i := 2) sc__law_ordered.nd rfl (Or.inl rfl))) (fun _ _ _ _ _ => (pts_one (pt_cmpR op_in_seq (pv 2) (pv 1) rfl))) (fun _ _ _ _ _ => (pv 2))) pa_nil)))),
    (simS_ret (sim_cb rcl_tup (sim_cons (simX_e (simN_e (simN_lc (simI_seq (sim_op rop_ix (simX_e sim_var) (simX_e sim_c_int))) simG_n (by decide) (simT_test (sim_op rop_in (simX_e sim_var) (simX_e sim_var))) sim_var))) sim_nil)))⟩⟩
theorem ok__law_kind_of (X : K.In base) (G : base.Ns mainGlobals mg) (c : He.SaysD fa fn K) : Ok P w K mg base "_law_kind_of" 1 ["model", "name"] (sp0 K 2 m__law_kind_of) := by
  obtain ⟨fd, F⟩ := c.def_ 17 (d := d__law_kind_of) rfl
  have g := He.glo_ok X G (c.fact 17 (f := .glo "_law_kind_of") rfl)
  exact ⟨_, fd, g, F.kp, (F.bindsN (ps := ["model", "name"]) (fun _ _ _ _ _ _ us hl => match us, hl with | [_, _], _ => rfl)), fn0 F sc__law_kind_of fun cdv A outer s H E hr => ⟨_, PSs.nox (pss_cons (ps_set (i := 2) sc__law_kind_of.nd rfl (Or.inl rfl) pe_non)
      (pss_cons (ps_for PassesOwn.never rfl (pi_seq (pe_ix ix_seq (pv 0) pe_int (fun _ _ => rfl))) (pg_name (i := 3) sc__law_kind_of.nd rfl (Or.inl rfl)) (pss_one (ps_if (pt_cmpR (op_eqAll hr.units) (pe_ix ix_seq (pv 3) pe_int (fun _ _ => rfl)) (pv 1) (nomark _)) (pss_one (ps_set (i := 2) sc__law_kind_of.nd rfl (Or.inl rfl) (pv 3))) pss_nil)))
      (pss_one (ps_ret (pv 2))))),
    (simS_seq (simS_asg sim_c_non simG_n)
      (simS_seq (simS_for (simI_seq (sim_op rop_ix (simX_e sim_var) (simX_e sim_c_int))) simG_n (simS_if (simT_test (sim_op rop_eq (simX_e (sim_op rop_ix (simX_e sim_var) (simX_e sim_c_int))) (simX_e sim_var))) (simS_asg sim_var simG_n) simS_next))
      (simS_ret sim_var)))⟩⟩
theorem ok__law_total (X : K.In base) (G : base.Ns mainGlobals mg) (c : He.SaysD fa fn K) : Ok P w K mg base "_law_total" 1 ["amounts", "told"] (sp0 K 2 m__law_total) := by
  obtain ⟨fd, F⟩ := c.def_ 18 (d := d__law_total) rfl
  have g := He.glo_ok X G (c.fact 18 (f := .glo "_law_total") rfl)
  have t_sum := He.free_ok X G (c.fact 63 (f := .free "sum") rfl)
  have t_range := He.free_ok X G (c.fact 71 (f := .free "range") rfl)
  have t_len := He.free_ok X G (c.fact 67 (f := .free "len") rfl)
  exact ⟨_, fd, g, F.kp, (F.bindsN (ps := ["amounts", "told"]) (fun _ _ _ _ _ _ us hl => match us, hl with | [_, _], _ => rfl)), fn0 F sc__law_total fun cdv A outer s H E hr => ⟨_, PSs.nox (pss_one (ps_ret (pe_callB (cr_sum rfl) (by rfl) t_sum bt_sum (pa_cons (pe_lc (own := [("k", 2)]) (g := (gName 2)) rfl sc__law_total.nd (pi_range1 (by rfl) t_range (pa_cons (pe_callB call_lenAll (by rfl) t_len bt_len (pa_cons (pv 1) pa_nil)) pa_nil)) (blkOk_by (own := [("k", 2)]) (by kernel_rfl)) (fun _ _ _ _ _ => (pg_name (i := 2) sc__law_total.nd rfl (Or.inl rfl))) (fun _ _ _ _ _ => pts_nil) (fun _ _ _ _ _ => (pe_op op_mulAll (pe_ix ix_seq (pv 0) (pv 2) (fun _ _ => rfl)) (pe_ix ix_seq (pe_ix ix_seq (pv 1) (pv 2) (fun _ _ => rfl)) pe_int (fun _ _ => rfl))))) pa_nil)))),
    (simS_ret (sim_cb rcl_sum (sim_cons (simX_e (simN_e (simN_lc (simI_rng1 (sim_cons (simX_e (sim_cb rcl_len (sim_cons (simX_e sim_var) sim_nil))) sim_nil)) simG_n (by decide) simT_yes (sim_op rop_mul (simX_e (sim_op rop_ix (simX_e sim_var) (simX_e sim_var))) (simX_e (sim_op rop_ix (simX_e (sim_op rop_ix (simX_e sim_var) (simX_e sim_var))) (simX_e sim_c_int))))))) sim_nil)))⟩⟩
theorem ok_entry_rows (X : K.In base) (G : base.Ns mainGlobals mg) (c : He.SaysD fa fn K) : Ok P w K mg base "entry_rows" 2 ["model"] (sp0 K 1 m_entry_rows) := by
  obtain ⟨fd, F⟩ := c.def_ 19 (d := d_entry_rows) rfl
  have g := He.glo_ok X G (c.fact 19 (f := .glo "entry_rows") rfl)
  obtain ⟨⟨f_entry_of, fd_entry_of, g_entry_of, kp_entry_of, b_entry_of, G_entry_of⟩⟩ := ok_entry_of (w := w) (P := P) X G c
  exact ⟨_, fd, g, F.kp, (F.bindsN (ps := ["model"]) (fun _ _ _ _ _ _ us hl => match us, hl with | [_], _ => rfl)), fn0 F sc_entry_rows fun cdv A outer s H E hr => ⟨_, PSs.nox (pss_cons (ps_set (i := 1) sc_entry_rows.nd rfl (Or.inl rfl) pe_dnewK)
      (pss_cons (ps_for PassesOwn.never rfl (pi_seq (pe_ix ix_seq (pv 0) pe_int (fun _ _ => rfl))) (pg_name (i := 2) sc_entry_rows.nd rfl (Or.inr rfl)) (pss_cons (ps_setLc (i := 3) (own := [("account", 4)]) (g := (gName 4)) rfl sc_entry_rows.nd rfl rfl (sw_true rfl rfl rfl (by kernel_rfl)) (pi_seq (pe_ix ix_seq (pv 0) pe_int (fun _ _ => rfl))) (blkOk_by (own := [("account", 4)]) (by kernel_rfl)) (fun _ _ _ _ _ => (pg_name (i := 4) sc_entry_rows.nd rfl (Or.inl rfl))) (fun _ _ _ _ _ => pts_nil) (fun _ _ _ _ _ => (pe_call G_entry_of (hr.mono (by decide)) (by rfl) g_entry_of kp_entry_of b_entry_of .nil pass0 (pa_cons (pe_ix ix_seq (pv 2) pe_int (fun _ _ => rfl)) (pa_cons (pv 4) pa_nil)))))
      (pss_one (ps_asg (pe_tupF (pa_cons (pv 3) (pa_cons (pe_lc (own := [("account", 4)]) (g := (gName 4)) rfl sc_entry_rows.nd (pi_seq (pe_ix ix_seq (pv 0) pe_int (fun _ _ => rfl))) (blkOk_by (own := [("account", 4)]) (by kernel_rfl)) (fun _ _ _ _ _ => (pg_name (i := 4) sc_entry_rows.nd rfl (Or.inl rfl))) (fun _ _ _ _ _ => pts_nil) (fun _ _ _ _ _ => (pe_call G_entry_of (hr.mono (by decide)) (by rfl) g_entry_of kp_entry_of b_entry_of .nil pass0 (pa_cons (pe_ix ix_seq (pv 2) pe_int (fun _ _ => rfl)) (pa_cons (pv 4) pa_nil))))) pa_nil))) (pg_sub (pv 1) (pe_ix ix_seq (pv 2) pe_int (fun _ _ => rfl)) (set_dict (u1 hr.units)))))))
      (pss_one (ps_ret (pv 1))))),
    (simS_seq (simS_asgO simN_dnew)
      (simS_seq (simS_for (simI_seq (sim_op rop_ix (simX_e sim_var) (simX_e sim_c_int))) simG_n (simS_seq (simS_asg (simN_e (simN_lc (simI_seq (sim_op rop_ix (simX_e sim_var) (simX_e sim_c_int))) simG_n (by decide) simT_yes (sim_call0 rfl (sim_cons (simX_e (sim_op rop_ix (simX_e sim_var) (simX_e sim_c_int))) (sim_cons (simX_e sim_var) sim_nil))))) simG_n)
      (simS_put (sim_op rop_ix (simX_e sim_var) (simX_e sim_c_int)) (sim_tup (Nat.le_of_ble_eq_true rfl) (sim_cons (simX_e sim_var) (sim_cons (simX_e (simN_e (simN_lc (simI_seq (sim_op rop_ix (simX_e sim_var) (simX_e sim_c_int))) simG_n (by decide) simT_yes (sim_call0 rfl (sim_cons (simX_e (sim_op rop_ix (simX_e sim_var) (simX_e sim_c_int))) (sim_cons (simX_e sim_var) sim_nil)))))) sim_nil))))))
      (simS_frz (i := 1) (simS_ret sim_var))))⟩⟩
theorem ok_members (X : K.In base) (G : base.Ns mainGlobals mg) (c : He.SaysD fa fn K) : Ok P w K mg base "members" 42 ["model", "participants", "sector"] (sp0 K 3 m_members) := by
  obtain ⟨fd, F⟩ := c.def_ 20 (d := d_members) rfl
  have g := He.glo_ok X G (c.fact 20 (f := .glo "members") rfl)
  have t_enumerate := He.free_ok X G (c.fact 61 (f := .free "enumerate") rfl)
  obtain ⟨⟨f_belongs, fd_belongs, g_belongs, kp_belongs, b_belongs, G_belongs⟩⟩ := ok_belongs FUEL_belongs (w := w) (P := P) X G c
  obtain ⟨⟨f_profile_of, fd_profile_of, g_profile_of, kp_profile_of, b_profile_of, G_profile_of⟩⟩ := ok_profile_of (w := w) (P := P) X G c
  exact ⟨_, fd, g, F.kp, (F.bindsN (ps := ["model", "participants", "sector"]) (fun _ _ _ _ _ _ us hl => match us, hl with | [_, _, _], _ => rfl)), fn0 F sc_members fun cdv A outer s H E hr => ⟨_, PSs.nox (pss_one (ps_ret (pe_lc (own := [("number", 3), ("names", 4)]) (g := (gTup K 2 (gCons (gName 3) (gCons (gName 4) gNil)))) rfl sc_members.nd (pi_enumK (by rfl) t_enumerate (pa_cons (pv 1) pa_nil)) (blkOk_by (own := [("number", 3), ("names", 4)]) (by kernel_rfl)) (fun _ _ _ _ _ => (pg_tup rfl (pgs_cons (pg_name (i := 3) sc_members.nd rfl (Or.inl rfl)) (pgs_cons (pg_name (i := 4) sc_members.nd rfl (Or.inl rfl)) pgs_nil)))) (fun _ _ _ _ _ => (pts_one (pt_truth (pe_call G_belongs (hr.mono (by decide)) (by rfl) g_belongs kp_belongs b_belongs .nil pass0 (pa_cons (pv 0) (pa_cons (pe_call G_profile_of (hr.mono (by decide)) (by rfl) g_profile_of kp_profile_of b_profile_of .nil pass0 (pa_cons (pv 0) (pa_cons (pv 4) pa_nil))) (pa_cons (pv 2) pa_nil)))) (fun _ => rfl)))) (fun _ _ _ _ _ => (pv 3))))),
    (simS_ret (simN_e (simN_lc (simI_enum sim_var) (simG_t (simGs_cons simG_n (simGs_cons simG_n simGs_nil))) (by decide) (simT_tru (simX_e (sim_call0 rfl (sim_cons (simX_e sim_var) (sim_cons (simX_e (sim_call0 rfl (sim_cons (simX_e sim_var) (sim_cons (simX_e sim_var) sim_nil)))) (sim_cons (simX_e sim_var) sim_nil)))))) sim_var)))⟩⟩
theorem ok_group_profiles (X : K.In base) (G : base.Ns mainGlobals mg) (c : He.SaysD fa fn K) : Ok P w K mg base "group_profiles" 2 ["model", "profile"] (sp0 K 2 m_group_profiles) := by
  obtain ⟨fd, F⟩ := c.def_ 21 (d := d_group_profiles) rfl
  have g := He.glo_ok X G (c.fact 21 (f := .glo "group_profiles") rfl)
  have t_tuple := He.free_ok X G (c.fact 70 (f := .free "tuple") rfl)
  have t_range := He.free_ok X G (c.fact 71 (f := .free "range") rfl)
  obtain ⟨⟨f_profile_count, fd_profile_count, g_profile_count, kp_profile_count, b_profile_count, G_profile_count⟩⟩ := ok_profile_count (w := w) (P := P) X G c
  exact ⟨_, fd, g, F.kp, (F.bindsN (ps := ["model", "profile"]) (fun _ _ _ _ _ _ us hl => match us, hl with | [_, _], _ => rfl)), fn0 F sc_group_profiles fun cdv A outer s H E hr => ⟨_, PSs.nox (pss_cons (ps_set (i := 2) sc_group_profiles.nd rfl (Or.inl rfl) (pe_tupRgF rfl (by rfl) t_tuple (prg_1 (by rfl) t_range (pe_call G_profile_count (hr.mono (by decide)) (by rfl) g_profile_count kp_profile_count b_profile_count .nil pass0 (pa_cons (pv 0) pa_nil)))))
      (pss_cons (ps_if (pt_cmpR op_isN (pv 1) pe_non (nomark _)) (pss_one (ps_ret (pv 2))) pss_nil)
      (pss_one (ps_ret (pe_op op_addAll (pv 2) (pe_tupF (pa_cons (pv 1) pa_nil))))))),
    (simS_seq (simS_asg (sim_rngT (simX_e (sim_call0 rfl (sim_cons (simX_e sim_var) sim_nil)))) simG_n)
      (simS_seq (simS_if (simT_test (sim_op rop_isN (simX_e sim_var) (simX_e sim_c_non))) (simS_ret sim_var) simS_next)
      (simS_ret (sim_op rop_add (simX_e sim_var) (simX_e (sim_tup (Nat.le_of_ble_eq_true rfl) (sim_cons (simX_e sim_var) sim_nil)))))))⟩⟩
theorem ok_worth (X : K.In base) (G : base.Ns mainGlobals mg) (c : He.SaysD fa fn K) : Ok P w K mg base "worth" 2 ["model", "weights", "entries"] (sp0 K 3 m_worth) := by
  obtain ⟨fd, F⟩ := c.def_ 22 (d := d_worth) rfl
  have g := He.glo_ok X G (c.fact 22 (f := .glo "worth") rfl)
  have t_sum := He.free_ok X G (c.fact 63 (f := .free "sum") rfl)
  have t_zip := He.free_ok X G (c.fact 62 (f := .free "zip") rfl)
  obtain ⟨⟨f_entry_of, fd_entry_of, g_entry_of, kp_entry_of, b_entry_of, G_entry_of⟩⟩ := ok_entry_of (w := w) (P := P) X G c
  exact ⟨_, fd, g, F.kp, (F.bindsN (ps := ["model", "weights", "entries"]) (fun _ _ _ _ _ _ us hl => match us, hl with | [_, _, _], _ => rfl)), fn0 F sc_worth fun cdv A outer s H E hr => ⟨_, PSs.nox (pss_one (ps_ret (pe_callB (cr_sum rfl) (by rfl) t_sum bt_sum (pa_cons (pe_lc (own := [("weight", 3), ("account", 4)]) (g := (gTup K 2 (gCons (gName 3) (gCons (gName 4) gNil)))) rfl sc_worth.nd (pi_zipK (by rfl) t_zip (pa_cons (pv 1) (pa_cons (pe_ix ix_seq (pv 0) pe_int (fun _ _ => rfl)) pa_nil))) (blkOk_by (own := [("weight", 3), ("account", 4)]) (by kernel_rfl)) (fun _ _ _ _ _ => (pg_tup rfl (pgs_cons (pg_name (i := 3) sc_worth.nd rfl (Or.inl rfl)) (pgs_cons (pg_name (i := 4) sc_worth.nd rfl (Or.inl rfl)) pgs_nil)))) (fun _ _ _ _ _ => pts_nil) (fun _ _ _ _ _ => (pe_op op_mulAll (pv 3) (pe_call G_entry_of (hr.mono (by decide)) (by rfl) g_entry_of kp_entry_of b_entry_of .nil pass0 (pa_cons (pv 2) (pa_cons (pv 4) pa_nil)))))) pa_nil)))),
    (simS_ret (sim_cb rcl_sum (sim_cons (simX_e (simN_e (simN_lc (simI_zip sim_var (sim_op rop_ix (simX_e sim_var) (simX_e sim_c_int))) (simG_t (simGs_cons simG_n (simGs_cons simG_n simGs_nil))) (by decide) simT_yes (sim_op rop_mul (simX_e sim_var) (simX_e (sim_call0 rfl (sim_cons (simX_e sim_var) (sim_cons (simX_e sim_var) sim_nil)))))))) sim_nil)))⟩⟩
theorem ok_profile_apart (X : K.In base) (G : base.Ns mainGlobals mg) (c : He.SaysD fa fn K) : Ok P w K mg base "profile_apart" 2 ["model", "ledger", "apart"] (sp0 K 3 m_profile_apart) := by
  obtain ⟨fd, F⟩ := c.def_ 23 (d := d_profile_apart) rfl
  have g := He.glo_ok X G (c.fact 23 (f := .glo "profile_apart") rfl)
  obtain ⟨⟨f_profile_of, fd_profile_of, g_profile_of, kp_profile_of, b_profile_of, G_profile_of⟩⟩ := ok_profile_of (w := w) (P := P) X G c
  exact ⟨_, fd, g, F.kp, (F.bindsN (ps := ["model", "ledger", "apart"]) (fun _ _ _ _ _ _ us hl => match us, hl with | [_, _, _], _ => rfl)), fn0 F sc_profile_apart fun cdv A outer s H E hr => ⟨_, PSs.nox (pss_cons (ps_if (pt_cmpR op_isN (pv 2) pe_non (nomark _)) (pss_one (ps_ret pe_non)) pss_nil)
      (pss_one (ps_ret (pe_call G_profile_of (hr.mono (by decide)) (by rfl) g_profile_of kp_profile_of b_profile_of .nil pass0 (pa_cons (pv 0) (pa_cons (pe_ix ix_seq (pe_ix ix_seq (pv 1) pe_int (fun _ _ => rfl)) (pv 2) (fun _ _ => rfl)) pa_nil)))))),
    (simS_seq (simS_if (simT_test (sim_op rop_isN (simX_e sim_var) (simX_e sim_c_non))) (simS_ret sim_c_non) simS_next)
      (simS_ret (sim_call0 rfl (sim_cons (simX_e sim_var) (sim_cons (simX_e (sim_op rop_ix (simX_e (sim_op rop_ix (simX_e sim_var) (simX_e sim_c_int))) (simX_e sim_var))) sim_nil)))))⟩⟩
theorem ok__law_order (X : K.In base) (G : base.Ns mainGlobals mg) (c : He.SaysD fa fn K) : Ok P w K mg base "_law_order" 2 ["tape", "many"] (sp1 K 1 m__law_order) := by
  obtain ⟨fd, F⟩ := c.def_ 24 (d := d__law_order) rfl
  have g := He.glo_ok X G (c.fact 24 (f := .glo "_law_order") rfl)
  have t_list := He.free_ok X G (c.fact 66 (f := .free "list") rfl)
  have t_range := He.free_ok X G (c.fact 71 (f := .free "range") rfl)
  have t_len := He.free_ok X G (c.fact 67 (f := .free "len") rfl)
  obtain ⟨⟨f__law_draw, fd__law_draw, g__law_draw, kp__law_draw, b__law_draw, G__law_draw⟩⟩ := ok__law_draw (w := w) (P := P) X G c
  exact ⟨_, fd, g, F.kp, (F.bindsN (ps := ["tape", "many"]) (fun _ _ _ _ _ _ us hl => match us, hl with | [_, _], _ => rfl)), fn1 F sc__law_order fun cdv A outer s H E hr => ⟨_, PSs.nox (pss_cons (ps_set (i := 2) sc__law_order.nd rfl (Or.inl rfl) (pe_listRg rfl (by rfl) t_list (prg_1 (by rfl) t_range (pv 1))))
      (pss_cons (ps_set (i := 3) sc__law_order.nd rfl (Or.inl rfl) (pe_lst pa_nil))
      (pss_cons (ps_for PassesOwn.never rfl (pi_range1 (by rfl) t_range (pa_cons (pv 1) pa_nil)) (pg_name (i := 4) sc__law_order.nd rfl (Or.inl rfl)) (pss_one (ps_expr (pe_bm PySem.F.plainAttrs_list PySem.F.slot_list_append PySem.F.type_list_append mt_append (pv 3) (pa_cons (pe_bm PySem.F.plainAttrs_list PySem.F.slot_list_pop PySem.F.type_list_pop mt_popAt (pv 2) (pa_cons (pe_call G__law_draw (hr.mono (by decide)) (by rfl) g__law_draw kp__law_draw b__law_draw .nil pass0 (pa_cons (pv 0) (pa_cons (pe_callB call_lenAll (by rfl) t_len bt_len (pa_cons (pv 2) pa_nil)) pa_nil))) pa_nil)) pa_nil)))))
      (pss_one (ps_ret (pv 3)))))),
    (simS_seq (simS_asgO (simN_rng1 (simX_e sim_var)))
      (simS_seq (simS_asgO (simN_lst (Nat.le_of_ble_eq_true rfl) sim_nil))
      (simS_seq (simS_for (simI_rng1 (sim_cons (simX_e sim_var) sim_nil)) simG_n (simS_expr (sim_mut rmut_app (sim_cons (simX_e (sim_mut rmut_popAt (sim_cons (simX_e (sim_call1 rfl (sim_cons (simX_e (sim_cb rcl_len (sim_cons simX_s sim_nil))) sim_nil))) sim_nil))) sim_nil))))
      (simS_frz (i := 3) (simS_ret sim_var)))))⟩⟩
theorem ok__law_run (X : K.In base) (G : base.Ns mainGlobals mg) (c : He.SaysD fa fn K) : Ok P w K mg base "_law_run" 2 ["tape", "size"] (sp1 K 1 m__law_run) := by
  obtain ⟨fd, F⟩ := c.def_ 25 (d := d__law_run) rfl
  have g := He.glo_ok X G (c.fact 25 (f := .glo "_law_run") rfl)
  have t_range := He.free_ok X G (c.fact 71 (f := .free "range") rfl)
  obtain ⟨⟨f__law_letters, fd__law_letters, g__law_letters, kp__law_letters, b__law_letters, G__law_letters⟩⟩ := ok__law_letters (w := w) (P := P) X G c
  obtain ⟨⟨f__law_draw, fd__law_draw, g__law_draw, kp__law_draw, b__law_draw, G__law_draw⟩⟩ := ok__law_draw (w := w) (P := P) X G c
  exact ⟨_, fd, g, F.kp, (F.bindsN (ps := ["tape", "size"]) (fun _ _ _ _ _ _ us hl => match us, hl with | [_, _], _ => rfl)), fn1 F sc__law_run fun cdv A outer s H E hr => ⟨_, PSs.nox (pss_one (ps_ret (pe_join pe_str (pe_lc (own := [("k", 2)]) (g := (gName 2)) rfl sc__law_run.nd (pi_range1 (by rfl) t_range (pa_cons (pv 1) pa_nil)) (blkOk_by (own := [("k", 2)]) (by kernel_rfl)) (fun _ _ _ _ _ => (pg_name (i := 2) sc__law_run.nd rfl (Or.inl rfl))) (fun _ _ _ _ _ => pts_nil) (fun _ _ _ _ _ => (pe_ix ix_seq (pe_call0 G__law_letters (hr.mono (by decide)) (by rfl) g__law_letters kp__law_letters b__law_letters .nil pass0) (pe_call G__law_draw (hr.mono (by decide)) (by rfl) g__law_draw kp__law_draw b__law_draw .nil pass0 (pa_cons (pv 0) (pa_cons pe_int pa_nil))) (fun _ _ => rfl))))))),
    (simS_ret (sim_m1 rstr_join sim_c_str (simX_e (simN_e (simN_lc (simI_rng1 (sim_cons (simX_e sim_var) sim_nil)) simG_n (by decide) simT_yes (sim_op rop_ix (simX_e (sim_call0 rfl sim_nil)) (simX_e (sim_call1 rfl (sim_cons (simX_e sim_c_int) sim_nil)))))))))⟩⟩
theorem ok__law_leaf (X : K.In base) (G : base.Ns mainGlobals mg) (c : He.SaysD fa fn K) : Ok P w K mg base "_law_leaf" 2 ["tape", "sectors"] (sp1 K 1 m__law_leaf) := by
  obtain ⟨fd, F⟩ := c.def_ 26 (d := d__law_leaf) rfl
  have g := He.glo_ok X G (c.fact 26 (f := .glo "_law_leaf") rfl)
  have t_len := He.free_ok X G (c.fact 67 (f := .free "len") rfl)
  obtain ⟨⟨f__law_draw, fd__law_draw, g__law_draw, kp__law_draw, b__law_draw, G__law_draw⟩⟩ := ok__law_draw (w := w) (P := P) X G c
  exact ⟨_, fd, g, F.kp, (F.bindsN (ps := ["tape", "sectors"]) (fun _ _ _ _ _ _ us hl => match us, hl with | [_, _], _ => rfl)), fn1 F sc__law_leaf fun cdv A outer s H E hr => ⟨_, PSs.nox (pss_cons (ps_set (i := 2) sc__law_leaf.nd rfl (Or.inl rfl) (pe_call G__law_draw (hr.mono (by decide)) (by rfl) g__law_draw kp__law_draw b__law_draw .nil pass0 (pa_cons (pv 0) (pa_cons (pe_op op_addAll pe_int (pe_op op_mulAll pe_int (pe_callB call_lenAll (by rfl) t_len bt_len (pa_cons (pv 1) pa_nil)))) pa_nil))))
      (pss_cons (ps_if (pt_cmpR op_lt (pv 2) pe_int (nomark _)) (pss_one (ps_ret (pe_ix ix_seq (pe_lst (pa_cons (pe_tupF (pa_cons pe_str pa_nil)) (pa_cons (pe_tupF (pa_cons pe_str pa_nil)) pa_nil))) (pv 2) (fun _ _ => rfl)))) pss_nil)
      (pss_one (ps_ret (pe_tupF (pa_cons pe_str (pa_cons (pe_ix ix_seq (pv 1) (pe_op op_sub (pe_op op_fdivW (pv 2) pe_int) pe_int) (fun _ _ => rfl)) pa_nil))))))),
    (simS_seq (simS_asg (sim_call1 rfl (sim_cons (simX_e (sim_op rop_add (simX_e sim_c_int) (simX_e (sim_op rop_mul (simX_e sim_c_int) (simX_e (sim_cb rcl_len (sim_cons (simX_e sim_var) sim_nil))))))) sim_nil)) simG_n)
      (simS_seq (simS_if (simT_test (sim_op rop_lt (simX_e sim_var) (simX_e sim_c_int))) (simS_ret (sim_op rop_ix (simX_e (simN_e (simN_lst (Nat.le_of_ble_eq_true rfl) (sim_cons (simX_e (sim_tup (Nat.le_of_ble_eq_true rfl) (sim_cons (simX_e sim_c_str) sim_nil))) (sim_cons (simX_e (sim_tup (Nat.le_of_ble_eq_true rfl) (sim_cons (simX_e sim_c_str) sim_nil))) sim_nil))))) (simX_e sim_var))) simS_next)
      (simS_ret (sim_tup (Nat.le_of_ble_eq_true rfl) (sim_cons (simX_e sim_c_str) (sim_cons (simX_e (sim_op rop_ix (simX_e sim_var) (simX_e (sim_op rop_sub (simX_e (sim_op rop_fdiv (simX_e sim_var) (simX_e sim_c_int))) (simX_e sim_c_int))))) sim_nil))))))⟩⟩
theorem ok__law_number (X : K.In base) (G : base.Ns mainGlobals mg) (c : He.SaysD fa fn K) : Ok P w K mg base "_law_number" 2 ["tape", "wide"] (sp1 K 1 m__law_number) := by
  obtain ⟨fd, F⟩ := c.def_ 27 (d := d__law_number) rfl
  have g := He.glo_ok X G (c.fact 27 (f := .glo "_law_number") rfl)
  have t_len := He.free_ok X G (c.fact 67 (f := .free "len") rfl)
  obtain ⟨⟨f__law_draw, fd__law_draw, g__law_draw, kp__law_draw, b__law_draw, G__law_draw⟩⟩ := ok__law_draw (w := w) (P := P) X G c
  exact ⟨_, fd, g, F.kp, (F.bindsN (ps := ["tape", "wide"]) (fun _ _ _ _ _ _ us hl => match us, hl with | [_, _], _ => rfl)), fn1 F sc__law_number fun cdv A outer s H E hr => ⟨_, PSs.nox (pss_cons (ps_set (i := 2) sc__law_number.nd rfl (Or.inl rfl) (pe_lst (pa_cons pe_int (pa_cons pe_int (pa_cons pe_int (pa_cons pe_int (pa_cons pe_int (pa_cons pe_int pa_nil))))))))
      (pss_cons (ps_if (pt_cmpR op_gt (pv 1) pe_int (nomark _)) (pss_one (ps_set (i := 2) sc__law_number.nd rfl (Or.inl rfl) (pe_lst (pa_cons pe_int (pa_cons pe_int (pa_cons pe_int (pa_cons pe_int (pa_cons pe_int (pa_cons pe_int (pa_cons pe_int (pa_cons (pe_op op_addAll pe_int (pe_call G__law_draw (hr.mono (by decide)) (by rfl) g__law_draw kp__law_draw b__law_draw .nil pass0 (pa_cons (pv 0) (pa_cons pe_int pa_nil)))) pa_nil))))))))))) pss_nil)
      (pss_cons (ps_set (i := 3) sc__law_number.nd rfl (Or.inl rfl) (pe_ix ix_seq (pv 2) (pe_call G__law_draw (hr.mono (by decide)) (by rfl) g__law_draw kp__law_draw b__law_draw .nil pass0 (pa_cons (pv 0) (pa_cons (pe_callB call_lenAll (by rfl) t_len bt_len (pa_cons (pv 2) pa_nil)) pa_nil))) (fun _ _ => rfl)))
      (pss_one (ps_ret (pe_ix ix_seq (pe_lst (pa_cons (pv 3) (pa_cons (pe_un un_neg (pv 3)) pa_nil))) (pe_call G__law_draw (hr.mono (by decide)) (by rfl) g__law_draw kp__law_draw b__law_draw .nil pass0 (pa_cons (pv 0) (pa_cons pe_int pa_nil))) (fun _ _ => rfl))))))),
    (simS_seq (simS_asg (simN_e (simN_lst (Nat.le_of_ble_eq_true rfl) (sim_cons (simX_e sim_c_int) (sim_cons (simX_e sim_c_int) (sim_cons (simX_e sim_c_int) (sim_cons (simX_e sim_c_int) (sim_cons (simX_e sim_c_int) (sim_cons (simX_e sim_c_int) sim_nil)))))))) simG_n)
      (simS_seq (simS_if (simT_test (sim_op rop_gt (simX_e sim_var) (simX_e sim_c_int))) (simS_asg (simN_e (simN_lst (Nat.le_of_ble_eq_true rfl) (sim_cons (simX_e sim_c_int) (sim_cons (simX_e sim_c_int) (sim_cons (simX_e sim_c_int) (sim_cons (simX_e sim_c_int) (sim_cons (simX_e sim_c_int) (sim_cons (simX_e sim_c_int) (sim_cons (simX_e sim_c_int) (sim_cons (simX_e (sim_op rop_add (simX_e sim_c_int) (simX_e (sim_call1 rfl (sim_cons (simX_e sim_c_int) sim_nil))))) sim_nil)))))))))) simG_n) simS_next)
      (simS_seq (simS_asg (sim_op rop_ix (simX_e sim_var) (simX_e (sim_call1 rfl (sim_cons (simX_e (sim_cb rcl_len (sim_cons (simX_e sim_var) sim_nil))) sim_nil)))) simG_n)
      (simS_ret (sim_op rop_ix (simX_e (simN_e (simN_lst (Nat.le_of_ble_eq_true rfl) (sim_cons (simX_e sim_var) (sim_cons (simX_e (sim_un run_neg (simX_e sim_var))) sim_nil))))) (simX_e (sim_call1 rfl (sim_cons (simX_e sim_c_int) sim_nil))))))))⟩⟩
theorem ok__law_crowd (X : K.In base) (G : base.Ns mainGlobals mg) (c : He.SaysD fa fn K) : Ok P w K mg base "_law_crowd" 2 ["tape", "many", "rare"] (sp1 K 2 m__law_crowd) := by
  obtain ⟨fd, F⟩ := c.def_ 28 (d := d__law_crowd) rfl
  have g := He.glo_ok X G (c.fact 28 (f := .glo "_law_crowd") rfl)
  obtain ⟨⟨f__law_draw, fd__law_draw, g__law_draw, kp__law_draw, b__law_draw, G__law_draw⟩⟩ := ok__law_draw (w := w) (P := P) X G c
  exact ⟨_, fd, g, F.kp, (F.bindsN (ps := ["tape", "many", "rare"]) (fun _ _ _ _ _ _ us hl => match us, hl with | [_, _, _], _ => rfl)), fn1 F sc__law_crowd fun cdv A outer s H E hr => ⟨_, PSs.nox (pss_cons (ps_if (pt_cmpR (op_eqAll hr.units) (pe_call G__law_draw (hr.mono (by decide)) (by rfl) g__law_draw kp__law_draw b__law_draw .nil pass0 (pa_cons (pv 0) (pa_cons (pv 2) pa_nil))) pe_int (nomark _)) (pss_one (ps_ret (pe_ix ix_seq (pe_lst (pa_cons pe_int (pa_cons (pe_op op_addAll pe_int (pe_call G__law_draw (hr.mono (by decide)) (by rfl) g__law_draw kp__law_draw b__law_draw .nil pass0 (pa_cons (pv 0) (pa_cons pe_int pa_nil)))) pa_nil))) (pe_call G__law_draw (hr.mono (by decide)) (by rfl) g__law_draw kp__law_draw b__law_draw .nil pass0 (pa_cons (pv 0) (pa_cons pe_int pa_nil))) (fun _ _ => rfl)))) pss_nil)
      (pss_one (ps_ret (pe_call G__law_draw (hr.mono (by decide)) (by rfl) g__law_draw kp__law_draw b__law_draw .nil pass0 (pa_cons (pv 0) (pa_cons (pv 1) pa_nil)))))),
    (simS_seq (simS_if (simT_test (sim_op rop_eq (simX_e (sim_call1 rfl (sim_cons (simX_e sim_var) sim_nil))) (simX_e sim_c_int))) (simS_ret (sim_op rop_ix (simX_e (simN_e (simN_lst (Nat.le_of_ble_eq_true rfl) (sim_cons (simX_e sim_c_int) (sim_cons (simX_e (sim_op rop_add (simX_e sim_c_int) (simX_e (sim_call1 rfl (sim_cons (simX_e sim_c_int) sim_nil))))) sim_nil))))) (simX_e (sim_call1 rfl (sim_cons (simX_e sim_c_int) sim_nil))))) simS_next)
      (simS_ret (sim_call1 rfl (sim_cons (simX_e sim_var) sim_nil))))⟩⟩
theorem ok__law_amount (X : K.In base) (G : base.Ns mainGlobals mg) (c : He.SaysD fa fn K) : Ok P w K mg base "_law_amount" 2 ["tape"] (sp1 K 0 m__law_amount) := by
  obtain ⟨fd, F⟩ := c.def_ 29 (d := d__law_amount) rfl
  have g := He.glo_ok X G (c.fact 29 (f := .glo "_law_amount") rfl)
  obtain ⟨⟨f__law_draw, fd__law_draw, g__law_draw, kp__law_draw, b__law_draw, G__law_draw⟩⟩ := ok__law_draw (w := w) (P := P) X G c
  exact ⟨_, fd, g, F.kp, (F.bindsN (ps := ["tape"]) (fun _ _ _ _ _ _ us hl => match us, hl with | [_], _ => rfl)), fn1 F sc__law_amount fun cdv A outer s H E hr => ⟨_, PSs.nox (pss_one (ps_ret (pe_ix ix_seq (pe_lst (pa_cons pe_int (pa_cons pe_int (pa_cons pe_int (pa_cons pe_int (pa_cons pe_int (pa_cons pe_int (pa_cons (pe_op op_addAll (pe_op op_pow pe_int pe_int) pe_int) (pa_cons (pe_op op_addAll pe_int (pe_call G__law_draw (hr.mono (by decide)) (by rfl) g__law_draw kp__law_draw b__law_draw .nil pass0 (pa_cons (pv 0) (pa_cons pe_int pa_nil)))) pa_nil))))))))) (pe_call G__law_draw (hr.mono (by decide)) (by rfl) g__law_draw kp__law_draw b__law_draw .nil pass0 (pa_cons (pv 0) (pa_cons pe_int pa_nil))) (fun _ _ => rfl)))),
    (simS_ret (sim_op rop_ix (simX_e (simN_e (simN_lst (Nat.le_of_ble_eq_true rfl) (sim_cons (simX_e sim_c_int) (sim_cons (simX_e sim_c_int) (sim_cons (simX_e sim_c_int) (sim_cons (simX_e sim_c_int) (sim_cons (simX_e sim_c_int) (sim_cons (simX_e sim_c_int) (sim_cons (simX_e (sim_op rop_add (simX_e (sim_op rop_pow (simX_e sim_c_int) (simX_e sim_c_int))) (simX_e sim_c_int))) (sim_cons (simX_e (sim_op rop_add (simX_e sim_c_int) (simX_e (sim_call1 rfl (sim_cons (simX_e sim_c_int) sim_nil))))) sim_nil))))))))))) (simX_e (sim_call1 rfl (sim_cons (simX_e sim_c_int) sim_nil)))))⟩⟩
theorem ok__law_members (X : K.In base) (G : base.Ns mainGlobals mg) (c : He.SaysD fa fn K) : Ok P w K mg base "_law_members" 42 ["people", "sector"] (sp0 K 2 m__law_members) := by
  obtain ⟨fd, F⟩ := c.def_ 30 (d := d__law_members) rfl
  have g := He.glo_ok X G (c.fact 30 (f := .glo "_law_members") rfl)
  have t_range := He.free_ok X G (c.fact 71 (f := .free "range") rfl)
  have t_len := He.free_ok X G (c.fact 67 (f := .free "len") rfl)
  obtain ⟨⟨f__law_member, fd__law_member, g__law_member, kp__law_member, b__law_member, G__law_member⟩⟩ := ok__law_member FUEL__law_member (w := w) (P := P) X G c
  exact ⟨_, fd, g, F.kp, (F.bindsN (ps := ["people", "sector"]) (fun _ _ _ _ _ _ us hl => match us, hl with | [_, _], _ => rfl)), fn0 F sc__law_members fun cdv A outer s H E hr => ⟨_, PSs.nox (pss_one (ps_ret (pe_lc (own := [("k", 2)]) (g := (gName 2)) rfl sc__law_members.nd (pi_range1 (by rfl) t_range (pa_cons (pe_callB call_lenAll (by rfl) t_len bt_len (pa_cons (pv 0) pa_nil)) pa_nil)) (blkOk_by (own := [("k", 2)]) (by kernel_rfl)) (fun _ _ _ _ _ => (pg_name (i := 2) sc__law_members.nd rfl (Or.inl rfl))) (fun _ _ _ _ _ => (pts_one (pt_truth (pe_call G__law_member (hr.mono (by decide)) (by rfl) g__law_member kp__law_member b__law_member .nil pass0 (pa_cons (pv 1) (pa_cons (pe_ix ix_seq (pv 0) (pv 2) (fun _ _ => rfl)) pa_nil))) (fun _ => rfl)))) (fun _ _ _ _ _ => (pv 2))))),
    (simS_ret (simN_e (simN_lc (simI_rng1 (sim_cons (simX_e (sim_cb rcl_len (sim_cons (simX_e sim_var) sim_nil))) sim_nil)) simG_n (by decide) (simT_tru (simX_e (sim_call0 rfl (sim_cons (simX_e sim_var) (sim_cons (simX_e (sim_op rop_ix (simX_e sim_var) (simX_e sim_var))) sim_nil))))) sim_var)))⟩⟩
theorem ok__law_posted (X : K.In base) (G : base.Ns mainGlobals mg) (c : He.SaysD fa fn K) : Ok P w K mg base "_law_posted" 2 ["model", "people", "deals"] (sp0 K 3 m__law_posted) := by
  obtain ⟨fd, F⟩ := c.def_ 31 (d := d__law_posted) rfl
  have g := He.glo_ok X G (c.fact 31 (f := .glo "_law_posted") rfl)
  have t_len := He.free_ok X G (c.fact 67 (f := .free "len") rfl)
  obtain ⟨⟨f__law_kind_of, fd__law_kind_of, g__law_kind_of, kp__law_kind_of, b__law_kind_of, G__law_kind_of⟩⟩ := ok__law_kind_of (w := w) (P := P) X G c
  exact ⟨_, fd, g, F.kp, (F.bindsN (ps := ["model", "people", "deals"]) (fun _ _ _ _ _ _ us hl => match us, hl with | [_, _, _], _ => rfl)), fn0 F sc__law_posted fun cdv A outer s H E hr => ⟨_, PSs.nox (pss_cons (ps_setLc (i := 3) (own := [("person", 4)]) (g := (gName 4)) rfl sc__law_posted.nd rfl rfl (sw_true rfl rfl rfl (by kernel_rfl)) (pi_seq (pv 1)) (blkOk_by (own := [("person", 4)]) (by kernel_rfl)) (fun _ _ _ _ _ => (pg_name (i := 4) sc__law_posted.nd rfl (Or.inl rfl))) (fun _ _ _ _ _ => pts_nil) (fun _ _ _ _ _ => (pe_op op_mulAll (pe_lst (pa_cons pe_int pa_nil)) (pe_callB call_lenAll (by rfl) t_len bt_len (pa_cons (pe_ix ix_seq (pv 0) pe_int (fun _ _ => rfl)) pa_nil)))))
      (pss_cons (ps_for PassesOwn.never rfl (pi_seq (pv 2)) (pg_name (i := 5) sc__law_posted.nd rfl (Or.inl rfl)) (pss_cons (ps_set (i := 6) sc__law_posted.nd rfl (Or.inl rfl) (pe_call G__law_kind_of (hr.mono (by decide)) (by rfl) g__law_kind_of kp__law_kind_of b__law_kind_of .nil pass0 (pa_cons (pv 0) (pa_cons (pe_ix ix_seq (pv 5) pe_int (fun _ _ => rfl)) pa_nil))))
      (pss_cons (ps_for PassesOwn.never rfl (pi_seq (pe_ix ix_seq (pv 6) pe_int (fun _ _ => rfl))) (pg_name (i := 7) sc__law_posted.nd rfl (Or.inl rfl)) (pss_cons (ps_set (i := 8) sc__law_posted.nd rfl (Or.inl rfl) (pe_ix ix_seq (pv 3) (pe_ix ix_seq (pv 5) pe_int (fun _ _ => rfl)) (fun _ _ => rfl)))
      (pss_cons (ps_set (i := 9) sc__law_posted.nd rfl (Or.inl rfl) (pe_tm PySem.F.plainAttrs_tuple PySem.F.slot_tuple_index PySem.F.type_tuple_index mt_idxT (pe_ix ix_seq (pv 0) pe_int (fun _ _ => rfl)) (pa_cons (pe_ix ix_seq (pv 7) pe_int (fun _ _ => rfl)) pa_nil)))
      (pss_one (ps_asg (pe_op op_addAll (pe_ix ix_seq (pv 8) (pv 9) (fun _ _ => rfl)) (pe_op op_mulAll (pe_ix ix_seq (pv 5) pe_int (fun _ _ => rfl)) (pe_ix ix_seq (pv 7) pe_int (fun _ _ => rfl)))) (pg_sub (pv 8) (pv 9) set_list))))))
      (pss_one (ps_for PassesOwn.never rfl (pi_seq (pe_ix ix_seq (pv 6) pe_int (fun _ _ => rfl))) (pg_name (i := 7) sc__law_posted.nd rfl (Or.inl rfl)) (pss_cons (ps_set (i := 8) sc__law_posted.nd rfl (Or.inl rfl) (pe_ix ix_seq (pv 3) (pe_ix ix_seq (pv 5) pe_int (fun _ _ => rfl)) (fun _ _ => rfl)))
      (pss_cons (ps_set (i := 9) sc__law_posted.nd rfl (Or.inl rfl) (pe_tm PySem.F.plainAttrs_tuple PySem.F.slot_tuple_index PySem.F.type_tuple_index mt_idxT (pe_ix ix_seq (pv 0) pe_int (fun _ _ => rfl)) (pa_cons (pe_ix ix_seq (pv 7) pe_int (fun _ _ => rfl)) pa_nil)))
      (pss_one (ps_asg (pe_op op_addAll (pe_ix ix_seq (pv 8) (pv 9) (fun _ _ => rfl)) (pe_op op_mulAll (pe_ix ix_seq (pv 5) pe_int (fun _ _ => rfl)) (pe_ix ix_seq (pv 7) pe_int (fun _ _ => rfl)))) (pg_sub (pv 8) (pv 9) set_list))))))))))
      (pss_one (ps_ret (pv 3))))),
    (simS_nest (by decide) (simI_seq sim_var) (simN_op rop_mulN (simX_e (simN_e (simN_lst (Nat.le_of_ble_eq_true rfl) (sim_cons (simX_e sim_c_int) sim_nil)))) (simX_e (sim_cb rcl_len (sim_cons (simX_e (sim_op rop_ix (simX_e sim_var) (simX_e sim_c_int))) sim_nil))))
      (simZ_for (by decide) (by decide) (simI_seq sim_var) (simZ_seq (simZ_asg (by decide) (by decide) (sim_call0 rfl (sim_cons (simX_e sim_var) (sim_cons (simX_e (sim_op rop_ix (simX_e sim_var) (simX_e sim_c_int))) sim_nil))))
      (simZ_seq (simZ_for (by decide) (by decide) (simI_seq (sim_op rop_ix (simX_e sim_var) (simX_e sim_c_int))) (simZ_seq (simZ_row (by decide) (sim_op rop_ix (simX_e sim_var) (simX_e sim_c_int)))
      (simZ_seq (simZ_asg (by decide) (by decide) (sim_idxT (sim_op rop_ix (simX_e sim_var) (simX_e sim_c_int)) (simX_e (sim_op rop_ix (simX_e sim_var) (simX_e sim_c_int)))))
      (simZ_set sim_var (sim_op rop_mul (simX_e (sim_op rop_ix (simX_e sim_var) (simX_e sim_c_int))) (simX_e (sim_op rop_ix (simX_e sim_var) (simX_e sim_c_int))))))))
      (simZ_for (by decide) (by decide) (simI_seq (sim_op rop_ix (simX_e sim_var) (simX_e sim_c_int))) (simZ_seq (simZ_row (by decide) (sim_op rop_ix (simX_e sim_var) (simX_e sim_c_int)))
      (simZ_seq (simZ_asg (by decide) (by decide) (sim_idxT (sim_op rop_ix (simX_e sim_var) (simX_e sim_c_int)) (simX_e (sim_op rop_ix (simX_e sim_var) (simX_e sim_c_int)))))
      (simZ_set sim_var (sim_op rop_mul (simX_e (sim_op rop_ix (simX_e sim_var) (simX_e sim_c_int))) (simX_e (sim_op rop_ix (simX_e sim_var) (simX_e sim_c_int))))))))))))⟩⟩
theorem ok__law_countered (X : K.In base) (G : base.Ns mainGlobals mg) (c : He.SaysD fa fn K) : Ok P w K mg base "_law_countered" 2 ["lists", "model"] (sp0 K 2 m__law_countered) := by
  obtain ⟨fd, F⟩ := c.def_ 32 (d := d__law_countered) rfl
  have g := He.glo_ok X G (c.fact 32 (f := .glo "_law_countered") rfl)
  obtain ⟨⟨f__law_taken, fd__law_taken, g__law_taken, kp__law_taken, b__law_taken, G__law_taken⟩⟩ := ok__law_taken (w := w) (P := P) X G c
  obtain ⟨⟨f__law_negated, fd__law_negated, g__law_negated, kp__law_negated, b__law_negated, G__law_negated⟩⟩ := ok__law_negated (w := w) (P := P) X G c
  exact ⟨_, fd, g, F.kp, (F.bindsN (ps := ["lists", "model"]) (fun _ _ _ _ _ _ us hl => match us, hl with | [_, _], _ => rfl)), fn0 F sc__law_countered fun cdv A outer s H E hr => ⟨_, PSs.nox (pss_cons (ps_if (pt_cmpR (op_eqE hr.units) (pe_ix ix_seq (pv 1) pe_int (fun _ _ => rfl)) (pe_tupF pa_nil) (nomark _)) (pss_one (ps_ret (pv 1))) pss_nil)
      (pss_cons (ps_set (i := 2) sc__law_countered.nd rfl (Or.inl rfl) (pe_ix ix_seq (pe_lc (own := [("name", 3)]) (g := (gName 3)) rfl sc__law_countered.nd (pi_seq (pe_ix ix_seq (pv 0) pe_int (fun _ _ => rfl))) (blkOk_by (own := [("name", 3)]) (by kernel_rfl)) (fun _ _ _ _ _ => (pg_name (i := 3) sc__law_countered.nd rfl (Or.inl rfl))) (fun _ _ _ _ _ => (pts_one (pt_cmpR op_notIn_seq (pv 3) (pe_call G__law_taken (hr.mono (by decide)) (by rfl) g__law_taken kp__law_taken b__law_taken .nil pass0 (pa_cons (pv 1) pa_nil)) rfl))) (fun _ _ _ _ _ => (pv 3))) pe_int (fun _ _ => rfl)))
      (pss_cons (ps_set (i := 4) sc__law_countered.nd rfl (Or.inl rfl) (pe_ix ix_seq (pe_ix ix_seq (pv 1) pe_int (fun _ _ => rfl)) pe_int (fun _ _ => rfl)))
      (pss_cons (ps_set (i := 5) sc__law_countered.nd rfl (Or.inl rfl) (pe_tupF (pa_cons (pv 2) (pa_cons (pe_ix ix_seq (pv 4) pe_int (fun _ _ => rfl)) (pa_cons (pe_call G__law_negated (hr.mono (by decide)) (by rfl) g__law_negated kp__law_negated b__law_negated .nil pass0 (pa_cons (pe_ix ix_seq (pv 4) pe_int (fun _ _ => rfl)) pa_nil)) (pa_cons (pe_ix ix_seq (pv 4) pe_int (fun _ _ => rfl)) (pa_cons (pe_call G__law_negated (hr.mono (by decide)) (by rfl) g__law_negated kp__law_negated b__law_negated .nil pass0 (pa_cons (pe_ix ix_seq (pv 4) pe_int (fun _ _ => rfl)) pa_nil)) pa_nil)))))))
      (pss_one (ps_ret (pe_op op_addAll (pe_op op_addAll (pe_slice sl_all (pv 1) po_none (po_some pe_int)) (pe_tupF (pa_cons (pe_op op_addAll (pe_ix ix_seq (pv 1) pe_int (fun _ _ => rfl)) (pe_tupF (pa_cons (pv 5) pa_nil))) pa_nil))) (pe_slice sl_all (pv 1) (po_some pe_int) po_none)))))))),
    (simS_seq (simS_if (simT_test (sim_op rop_eqE (simX_e (sim_op rop_ix (simX_e sim_var) (simX_e sim_c_int))) (simX_e (sim_tup (Nat.le_of_ble_eq_true rfl) sim_nil)))) (simS_ret sim_var) simS_next)
      (simS_seq (simS_asg (sim_op rop_ix (simX_e (simN_e (simN_lc (simI_seq (sim_op rop_ix (simX_e sim_var) (simX_e sim_c_int))) simG_n (by decide) (simT_test (sim_op rop_in (simX_e sim_var) (simX_e (sim_call0 rfl (sim_cons (simX_e sim_var) sim_nil))))) sim_var))) (simX_e sim_c_int)) simG_n)
      (simS_seq (simS_asg (sim_op rop_ix (simX_e (sim_op rop_ix (simX_e sim_var) (simX_e sim_c_int))) (simX_e sim_c_int)) simG_n)
      (simS_seq (simS_asg (sim_tup (Nat.le_of_ble_eq_true rfl) (sim_cons (simX_e sim_var) (sim_cons (simX_e (sim_op rop_ix (simX_e sim_var) (simX_e sim_c_int))) (sim_cons (simX_e (sim_call0 rfl (sim_cons (simX_e (sim_op rop_ix (simX_e sim_var) (simX_e sim_c_int))) sim_nil))) (sim_cons (simX_e (sim_op rop_ix (simX_e sim_var) (simX_e sim_c_int))) (sim_cons (simX_e (sim_call0 rfl (sim_cons (simX_e (sim_op rop_ix (simX_e sim_var) (simX_e sim_c_int))) sim_nil))) sim_nil)))))) simG_n)
      (simS_ret (sim_op rop_add (simX_e (sim_op rop_add (simX_e (sim_sl (simX_e sim_var) simO_none (simO_some sim_c_int))) (simX_e (sim_tup (Nat.le_of_ble_eq_true rfl) (sim_cons (simX_e (sim_op rop_add (simX_e (sim_op rop_ix (simX_e sim_var) (simX_e sim_c_int))) (simX_e (sim_tup (Nat.le_of_ble_eq_true rfl) (sim_cons (simX_e sim_var) sim_nil))))) sim_nil))))) (simX_e (sim_sl (simX_e sim_var) (simO_some sim_c_int) simO_none))))))))⟩⟩
theorem ok_balances (X : K.In base) (G : base.Ns mainGlobals mg) (c : He.SaysD fa fn K) : Ok P w K mg base "balances" 3 ["model", "ledger"] (sp0 K 2 m_balances) := by
  obtain ⟨fd, F⟩ := c.def_ 33 (d := d_balances) rfl
  have g := He.glo_ok X G (c.fact 33 (f := .glo "balances") rfl)
  have t_len := He.free_ok X G (c.fact 67 (f := .free "len") rfl)
  have t_tuple := He.free_ok X G (c.fact 70 (f := .free "tuple") rfl)
  obtain ⟨⟨f_entry_rows, fd_entry_rows, g_entry_rows, kp_entry_rows, b_entry_rows, G_entry_rows⟩⟩ := ok_entry_rows (w := w) (P := P) X G c
  obtain ⟨⟨f_added, fd_added, g_added, kp_added, b_added, G_added⟩⟩ := ok_added (w := w) (P := P) X G c
  exact ⟨_, fd, g, F.kp, (F.bindsN (ps := ["model", "ledger"]) (fun _ _ _ _ _ _ us hl => match us, hl with | [_, _], _ => rfl)), fn0 F sc_balances fun cdv A outer s H E hr => ⟨_, PSs.nox (pss_cons (ps_set (i := 2) sc_balances.nd rfl (Or.inl rfl) (pe_call G_entry_rows (hr.mono (by decide)) (by rfl) g_entry_rows kp_entry_rows b_entry_rows .nil pass0 (pa_cons (pv 0) pa_nil)))
      (pss_cons (ps_setLc (i := 3) (own := [("_", 4)]) (g := (gName 4)) rfl sc_balances.nd rfl rfl (sw_true rfl rfl rfl (by kernel_rfl)) (pi_seq (pe_ix ix_seq (pv 1) pe_int (fun _ _ => rfl))) (blkOk_by (own := [("_", 4)]) (by kernel_rfl)) (fun _ _ _ _ _ => (pg_name (i := 4) sc_balances.nd rfl (Or.inl rfl))) (fun _ _ _ _ _ => pts_nil) (fun _ _ _ _ _ => (pe_op op_mulAll (pe_lst (pa_cons pe_int pa_nil)) (pe_callB call_lenAll (by rfl) t_len bt_len (pa_cons (pe_ix ix_seq (pv 0) pe_int (fun _ _ => rfl)) pa_nil)))))
      (pss_cons (ps_for PassesOwn.never rfl (pi_seq (pe_ix ix_seq (pv 1) pe_int (fun _ _ => rfl))) (pg_tup rfl (pgs_cons (pg_name (i := 5) sc_balances.nd rfl (Or.inl rfl)) (pgs_cons (pg_name (i := 6) sc_balances.nd rfl (Or.inl rfl)) (pgs_cons (pg_name (i := 7) sc_balances.nd rfl (Or.inl rfl)) (pgs_cons (pg_name (i := 8) sc_balances.nd rfl (Or.inl rfl)) pgs_nil))))) (pss_cons (ps_asg (pe_call G_added (hr.mono (by decide)) (by rfl) g_added kp_added b_added .nil pass0 (pa_cons (pe_ix ix_seq (pv 3) (pv 6) (fun _ _ => rfl)) (pa_cons (pv 8) (pa_cons (pe_ix ix_seq (pe_ix (ix_all (u1 hr.units)) (pv 2) (pv 5) (fun _ _ => rfl)) pe_int (fun _ _ => rfl)) pa_nil)))) (pg_sub (pv 3) (pv 6) set_list))
      (pss_one (ps_asg (pe_call G_added (hr.mono (by decide)) (by rfl) g_added kp_added b_added .nil pass0 (pa_cons (pe_ix ix_seq (pv 3) (pv 7) (fun _ _ => rfl)) (pa_cons (pv 8) (pa_cons (pe_ix ix_seq (pe_ix (ix_all (u1 hr.units)) (pv 2) (pv 5) (fun _ _ => rfl)) pe_int (fun _ _ => rfl)) pa_nil)))) (pg_sub (pv 3) (pv 7) set_list)))))
      (pss_one (ps_ret (pe_callTy call_tuple_ofF (by rfl) t_tuple bt_tuple (pa_cons (pe_lc (own := [("row", 9)]) (g := (gName 9)) rfl sc_balances.nd (pi_seq (pv 3)) (blkOk_by (own := [("row", 9)]) (by kernel_rfl)) (fun _ _ _ _ _ => (pg_name (i := 9) sc_balances.nd rfl (Or.inl rfl))) (fun _ _ _ _ _ => pts_nil) (fun _ _ _ _ _ => (pe_callTy call_tuple_ofF (by rfl) t_tuple bt_tuple (pa_cons (pv 9) pa_nil)))) pa_nil))))))),
    (simS_seq (simS_asg (sim_call0 rfl (sim_cons (simX_e sim_var) sim_nil)) simG_n)
      (simS_seq (simS_asgO (simN_lc (simI_seq (sim_op rop_ix (simX_e sim_var) (simX_e sim_c_int))) simG_n (by decide) simT_yes (sim_op rop_mul (simX_e (simN_e (simN_lst (Nat.le_of_ble_eq_true rfl) (sim_cons (simX_e sim_c_int) sim_nil)))) (simX_e (sim_cb rcl_len (sim_cons (simX_e (sim_op rop_ix (simX_e sim_var) (simX_e sim_c_int))) sim_nil))))))
      (simS_seq (simS_for (simI_seq (sim_op rop_ix (simX_e sim_var) (simX_e sim_c_int))) (simG_t (simGs_cons simG_n (simGs_cons simG_n (simGs_cons simG_n (simGs_cons simG_n simGs_nil))))) (simS_seq (simS_set sim_var (sim_call0 rfl (sim_cons (simX_e (sim_op rop_ix simX_s (simX_e sim_var))) (sim_cons (simX_e sim_var) (sim_cons (simX_e (sim_op rop_ix (simX_e (sim_op rop_ixA (simX_e sim_var) (simX_e sim_var))) (simX_e sim_c_int))) sim_nil)))))
      (simS_set sim_var (sim_call0 rfl (sim_cons (simX_e (sim_op rop_ix simX_s (simX_e sim_var))) (sim_cons (simX_e sim_var) (sim_cons (simX_e (sim_op rop_ix (simX_e (sim_op rop_ixA (simX_e sim_var) (simX_e sim_var))) (simX_e sim_c_int))) sim_nil)))))))
      (simS_frz (i := 3) (simS_ret (sim_cb rcl_tup (sim_cons (simX_e (simN_e (simN_lc (simI_seq sim_var) simG_n (by decide) simT_yes (sim_cb rcl_tup (sim_cons (simX_e sim_var) sim_nil))))) sim_nil)))))))⟩⟩
theorem ok_sum_value (X : K.In base) (G : base.Ns mainGlobals mg) (c : He.SaysD fa fn K) : Ok P w K mg base "sum_value" 43 ["model", "participants", "rows", "terms"] (sp0 K 4 m_sum_value) := by
  obtain ⟨fd, F⟩ := c.def_ 34 (d := d_sum_value) rfl
  have g := He.glo_ok X G (c.fact 34 (f := .glo "sum_value") rfl)
  have t_sum := He.free_ok X G (c.fact 63 (f := .free "sum") rfl)
  obtain ⟨⟨f_members, fd_members, g_members, kp_members, b_members, G_members⟩⟩ := ok_members (w := w) (P := P) X G c
  exact ⟨_, fd, g, F.kp, (F.bindsN (ps := ["model", "participants", "rows", "terms"]) (fun _ _ _ _ _ _ us hl => match us, hl with | [_, _, _, _], _ => rfl)), fn0 F sc_sum_value fun cdv A outer s H E hr => ⟨_, PSs.nox (pss_cons (ps_set (i := 4) sc_sum_value.nd rfl (Or.inl rfl) pe_int)
      (pss_cons (ps_for PassesOwn.never rfl (pi_seq (pv 3)) (pg_tup rfl (pgs_cons (pg_name (i := 5) sc_sum_value.nd rfl (Or.inl rfl)) (pgs_cons (pg_name (i := 6) sc_sum_value.nd rfl (Or.inl rfl)) (pgs_cons (pg_name (i := 7) sc_sum_value.nd rfl (Or.inl rfl)) pgs_nil)))) (pss_cons (ps_set (i := 8) sc_sum_value.nd rfl (Or.inr rfl) (pe_tm PySem.F.plainAttrs_tuple PySem.F.slot_tuple_index PySem.F.type_tuple_index mt_idxT (pe_ix ix_seq (pv 0) pe_int (fun _ _ => rfl)) (pa_cons (pv 6) pa_nil)))
      (pss_one (ps_set (i := 4) sc_sum_value.nd rfl (Or.inl rfl) (pe_op op_addAll (pv 4) (pe_op op_mulAll (pv 5) (pe_callB (cr_sum rfl) (by rfl) t_sum bt_sum (pa_cons (pe_lc (own := [("member", 9)]) (g := (gName 9)) rfl sc_sum_value.nd (pi_seq (pe_call G_members (hr.mono (by decide)) (by rfl) g_members kp_members b_members .nil pass0 (pa_cons (pv 0) (pa_cons (pv 1) (pa_cons (pv 7) pa_nil))))) (blkOk_by (own := [("member", 9)]) (by kernel_rfl)) (fun _ _ _ _ _ => (pg_name (i := 9) sc_sum_value.nd rfl (Or.inl rfl))) (fun _ _ _ _ _ => pts_nil) (fun _ _ _ _ _ => (pe_ix ix_seq (pe_ix ix_seq (pv 2) (pv 9) (fun _ _ => rfl)) (pv 8) (fun _ _ => rfl)))) pa_nil))))))))
      (pss_one (ps_ret (pv 4))))),
    (simS_seq (simS_asg sim_c_int simG_n)
      (simS_seq (simS_for (simI_seq sim_var) (simG_t (simGs_cons simG_n (simGs_cons simG_n (simGs_cons simG_n simGs_nil)))) (simS_seq (simS_asg (sim_idxT (sim_op rop_ix (simX_e sim_var) (simX_e sim_c_int)) (simX_e sim_var)) simG_n)
      (simS_asg (sim_op rop_add (simX_e sim_var) (simX_e (sim_op rop_mul (simX_e sim_var) (simX_e (sim_cb rcl_sum (sim_cons (simX_e (simN_e (simN_lc (simI_seq (sim_call0 rfl (sim_cons (simX_e sim_var) (sim_cons (simX_e sim_var) (sim_cons (simX_e sim_var) sim_nil))))) simG_n (by decide) simT_yes (sim_op rop_ix (simX_e (sim_op rop_ix (simX_e sim_var) (simX_e sim_var))) (simX_e sim_var))))) sim_nil)))))) simG_n)))
      (simS_ret sim_var)))⟩⟩
theorem ok_groups_in (X : K.In base) (G : base.Ns mainGlobals mg) (c : He.SaysD fa fn K) : Ok P w K mg base "groups_in" 42 ["model", "profile", "sector"] (sp0 K 3 m_groups_in) := by
  obtain ⟨fd, F⟩ := c.def_ 35 (d := d_groups_in) rfl
  have g := He.glo_ok X G (c.fact 35 (f := .glo "groups_in") rfl)
  have t_enumerate := He.free_ok X G (c.fact 61 (f := .free "enumerate") rfl)
  obtain ⟨⟨f_group_profiles, fd_group_profiles, g_group_profiles, kp_group_profiles, b_group_profiles, G_group_profiles⟩⟩ := ok_group_profiles (w := w) (P := P) X G c
  obtain ⟨⟨f_belongs, fd_belongs, g_belongs, kp_belongs, b_belongs, G_belongs⟩⟩ := ok_belongs FUEL_belongs (w := w) (P := P) X G c
  exact ⟨_, fd, g, F.kp, (F.bindsN (ps := ["model", "profile", "sector"]) (fun _ _ _ _ _ _ us hl => match us, hl with | [_, _, _], _ => rfl)), fn0 F sc_groups_in fun cdv A outer s H E hr => ⟨_, PSs.nox (pss_cons (ps_set (i := 3) sc_groups_in.nd rfl (Or.inl rfl) (pe_call G_group_profiles (hr.mono (by decide)) (by rfl) g_group_profiles kp_group_profiles b_group_profiles .nil pass0 (pa_cons (pv 0) (pa_cons (pv 1) pa_nil))))
      (pss_one (ps_ret (pe_lc (own := [("group", 4), ("member", 5)]) (g := (gTup K 2 (gCons (gName 4) (gCons (gName 5) gNil)))) rfl sc_groups_in.nd (pi_enumK (by rfl) t_enumerate (pa_cons (pv 3) pa_nil)) (blkOk_by (own := [("group", 4), ("member", 5)]) (by kernel_rfl)) (fun _ _ _ _ _ => (pg_tup rfl (pgs_cons (pg_name (i := 4) sc_groups_in.nd rfl (Or.inl rfl)) (pgs_cons (pg_name (i := 5) sc_groups_in.nd rfl (Or.inl rfl)) pgs_nil)))) (fun _ _ _ _ _ => (pts_one (pt_truth (pe_call G_belongs (hr.mono (by decide)) (by rfl) g_belongs kp_belongs b_belongs .nil pass0 (pa_cons (pv 0) (pa_cons (pv 5) (pa_cons (pv 2) pa_nil)))) (fun _ => rfl)))) (fun _ _ _ _ _ => (pv 4)))))),
    (simS_seq (simS_asg (sim_call0 rfl (sim_cons (simX_e sim_var) (sim_cons (simX_e sim_var) sim_nil))) simG_n)
      (simS_ret (simN_e (simN_lc (simI_enum sim_var) (simG_t (simGs_cons simG_n (simGs_cons simG_n simGs_nil))) (by decide) (simT_tru (simX_e (sim_call0 rfl (sim_cons (simX_e sim_var) (sim_cons (simX_e sim_var) (sim_cons (simX_e sim_var) sim_nil)))))) sim_var))))⟩⟩
theorem ok_weights_of (X : K.In base) (G : base.Ns mainGlobals mg) (c : He.SaysD fa fn K) : Ok P w K mg base "weights_of" 42 ["model", "profile", "constraint", "group"] (sp0 K 4 m_weights_of) := by
  obtain ⟨fd, F⟩ := c.def_ 36 (d := d_weights_of) rfl
  have g := He.glo_ok X G (c.fact 36 (f := .glo "weights_of") rfl)
  have t_enumerate := He.free_ok X G (c.fact 61 (f := .free "enumerate") rfl)
  have t_len := He.free_ok X G (c.fact 67 (f := .free "len") rfl)
  obtain ⟨⟨f_group_profiles, fd_group_profiles, g_group_profiles, kp_group_profiles, b_group_profiles, G_group_profiles⟩⟩ := ok_group_profiles (w := w) (P := P) X G c
  obtain ⟨⟨f_terms_of, fd_terms_of, g_terms_of, kp_terms_of, b_terms_of, G_terms_of⟩⟩ := ok_terms_of (w := w) (P := P) X G c
  obtain ⟨⟨f_belongs, fd_belongs, g_belongs, kp_belongs, b_belongs, G_belongs⟩⟩ := ok_belongs FUEL_belongs (w := w) (P := P) X G c
  exact ⟨_, fd, g, F.kp, (F.bindsN (ps := ["model", "profile", "constraint", "group"]) (fun _ _ _ _ _ _ us hl => match us, hl with | [_, _, _, _], _ => rfl)), fn0 F sc_weights_of fun cdv A outer s H E hr => ⟨_, PSs.nox (pss_cons (ps_set (i := 4) sc_weights_of.nd rfl (Or.inl rfl) (pe_lst pa_nil))
      (pss_cons (ps_for PassesOwn.never rfl (pi_enumK (by rfl) t_enumerate (pa_cons (pe_call G_group_profiles (hr.mono (by decide)) (by rfl) g_group_profiles kp_group_profiles b_group_profiles .nil pass0 (pa_cons (pv 0) (pa_cons (pv 1) pa_nil))) pa_nil)) (pg_tup rfl (pgs_cons (pg_name (i := 5) sc_weights_of.nd rfl (Or.inl rfl)) (pgs_cons (pg_name (i := 6) sc_weights_of.nd rfl (Or.inl rfl)) pgs_nil))) (pss_cons (ps_set (i := 7) sc_weights_of.nd rfl (Or.inl rfl) (pe_op op_mulAll (pe_lst (pa_cons pe_int pa_nil)) (pe_callB call_lenAll (by rfl) t_len bt_len (pa_cons (pe_ix ix_seq (pv 0) pe_int (fun _ _ => rfl)) pa_nil))))
      (pss_cons (ps_for PassesOwn.never rfl (pi_seq (pe_call G_terms_of (hr.mono (by decide)) (by rfl) g_terms_of kp_terms_of b_terms_of .nil pass0 (pa_cons (pv 2) pa_nil))) (pg_name (i := 8) sc_weights_of.nd rfl (Or.inl rfl)) (pss_cons (ps_set (i := 9) sc_weights_of.nd rfl (Or.inl rfl) (pe_cmpR (op_eqAll hr.units) (pv 5) (pv 3) (nomark _)))
      (pss_cons (ps_if (pt_cmpR (op_eqAll hr.units) (pe_ix ix_seq (pv 2) pe_int (fun _ _ => rfl)) pe_str (nomark _)) (pss_one (ps_set (i := 9) sc_weights_of.nd rfl (Or.inl rfl) (pe_call G_belongs (hr.mono (by decide)) (by rfl) g_belongs kp_belongs b_belongs .nil pass0 (pa_cons (pv 0) (pa_cons (pv 6) (pa_cons (pe_ix ix_seq (pv 8) pe_int (fun _ _ => rfl)) pa_nil)))))) pss_nil)
      (pss_one (ps_if (pt_truth (pv 9) (fun _ => rfl)) (pss_cons (ps_set (i := 10) sc_weights_of.nd rfl (Or.inl rfl) (pe_tm PySem.F.plainAttrs_tuple PySem.F.slot_tuple_index PySem.F.type_tuple_index mt_idxT (pe_ix ix_seq (pv 0) pe_int (fun _ _ => rfl)) (pa_cons (pe_ix ix_seq (pv 8) pe_int (fun _ _ => rfl)) pa_nil)))
      (pss_one (ps_asg (pe_op op_addAll (pe_ix ix_seq (pv 7) (pv 10) (fun _ _ => rfl)) (pe_ix ix_seq (pv 8) pe_int (fun _ _ => rfl))) (pg_sub (pv 7) (pv 10) set_list)))) pss_nil)))))
      (pss_one (ps_expr (pe_bm PySem.F.plainAttrs_list PySem.F.slot_list_append PySem.F.type_list_append mt_append (pv 4) (pa_cons (pv 7) pa_nil)))))))
      (pss_one (ps_ret (pv 4))))),
    (simS_seq (simS_asgO (simN_lst (Nat.le_of_ble_eq_true rfl) sim_nil))
      (simS_seq (simS_for (simI_enum (sim_call0 rfl (sim_cons (simX_e sim_var) (sim_cons (simX_e sim_var) sim_nil)))) (simG_t (simGs_cons simG_n (simGs_cons simG_n simGs_nil))) (simS_seq (simS_asgO (simN_op rop_mulN (simX_e (simN_e (simN_lst (Nat.le_of_ble_eq_true rfl) (sim_cons (simX_e sim_c_int) sim_nil)))) (simX_e (sim_cb rcl_len (sim_cons (simX_e (sim_op rop_ix (simX_e sim_var) (simX_e sim_c_int))) sim_nil)))))
      (simS_seq (simS_for (simI_seq (sim_call0 rfl (sim_cons (simX_e sim_var) sim_nil))) simG_n (simS_seq (simS_asg (sim_op rop_eq (simX_e sim_var) (simX_e sim_var)) simG_n)
      (simS_seq (simS_if (simT_test (sim_op rop_eq (simX_e (sim_op rop_ix (simX_e sim_var) (simX_e sim_c_int))) (simX_e sim_c_str))) (simS_asg (sim_call0 rfl (sim_cons (simX_e sim_var) (sim_cons (simX_e sim_var) (sim_cons (simX_e (sim_op rop_ix (simX_e sim_var) (simX_e sim_c_int))) sim_nil)))) simG_n) simS_next)
      (simS_if (simT_tru (simX_e sim_var)) (simS_seq (simS_asg (sim_idxT (sim_op rop_ix (simX_e sim_var) (simX_e sim_c_int)) (simX_e (sim_op rop_ix (simX_e sim_var) (simX_e sim_c_int)))) simG_n)
      (simS_set sim_var (sim_op rop_add (simX_e (sim_op rop_ix simX_s (simX_e sim_var))) (simX_e (sim_op rop_ix (simX_e sim_var) (simX_e sim_c_int)))))) simS_next))))
      (simS_frz (i := 7) (simS_expr (sim_mut rmut_app (sim_cons simX_s sim_nil)))))))
      (simS_frz (i := 4) (simS_ret sim_var))))⟩⟩
theorem ok_contribution_row (X : K.In base) (G : base.Ns mainGlobals mg) (c : He.SaysD fa fn K) : Ok P w K mg base "contribution_row" 3 ["model", "units", "weights", "sign"] (sp0 K 4 m_contribution_row) := by
  obtain ⟨fd, F⟩ := c.def_ 37 (d := d_contribution_row) rfl
  have g := He.glo_ok X G (c.fact 37 (f := .glo "contribution_row") rfl)
  have t_tuple := He.free_ok X G (c.fact 70 (f := .free "tuple") rfl)
  obtain ⟨⟨f_worth, fd_worth, g_worth, kp_worth, b_worth, G_worth⟩⟩ := ok_worth (w := w) (P := P) X G c
  exact ⟨_, fd, g, F.kp, (F.bindsN (ps := ["model", "units", "weights", "sign"]) (fun _ _ _ _ _ _ us hl => match us, hl with | [_, _, _, _], _ => rfl)), fn0 F sc_contribution_row fun cdv A outer s H E hr => ⟨_, PSs.nox (pss_cons (ps_set (i := 4) sc_contribution_row.nd rfl (Or.inr rfl) pe_dnewK)
      (pss_cons (ps_set (i := 5) sc_contribution_row.nd rfl (Or.inr rfl) pe_dnewK)
      (pss_cons (ps_for PassesOwn.never rfl (pi_seq (pe_ix ix_seq (pv 0) pe_int (fun _ _ => rfl))) (pg_name (i := 6) sc_contribution_row.nd rfl (Or.inr rfl)) (pss_cons (ps_asg (pe_lc (own := [("row", 7)]) (g := (gName 7)) rfl sc_contribution_row.nd (pi_seq (pv 2)) (blkOk_by (own := [("row", 7)]) (by kernel_rfl)) (fun _ _ _ _ _ => (pg_name (i := 7) sc_contribution_row.nd rfl (Or.inl rfl))) (fun _ _ _ _ _ => pts_nil) (fun _ _ _ _ _ => (pe_call G_worth (hr.mono (by decide)) (by rfl) g_worth kp_worth b_worth .nil pass0 (pa_cons (pv 0) (pa_cons (pv 7) (pa_cons (pe_ix ix_seq (pv 6) pe_int (fun _ _ => rfl)) pa_nil)))))) (pg_sub (pv 4) (pe_ix ix_seq (pv 6) pe_int (fun _ _ => rfl)) (set_dict (u1 hr.units))))
      (pss_one (ps_asg (pe_lc (own := [("row", 7)]) (g := (gName 7)) rfl sc_contribution_row.nd (pi_seq (pv 2)) (blkOk_by (own := [("row", 7)]) (by kernel_rfl)) (fun _ _ _ _ _ => (pg_name (i := 7) sc_contribution_row.nd rfl (Or.inl rfl))) (fun _ _ _ _ _ => pts_nil) (fun _ _ _ _ _ => (pe_call G_worth (hr.mono (by decide)) (by rfl) g_worth kp_worth b_worth .nil pass0 (pa_cons (pv 0) (pa_cons (pv 7) (pa_cons (pe_ix ix_seq (pv 6) pe_int (fun _ _ => rfl)) pa_nil)))))) (pg_sub (pv 5) (pe_ix ix_seq (pv 6) pe_int (fun _ _ => rfl)) (set_dict (u1 hr.units)))))))
      (pss_one (ps_ret (pe_callTy call_tuple_ofF (by rfl) t_tuple bt_tuple (pa_cons (pe_lc (own := [("name", 8), ("payer", 9), ("payee", 10)]) (g := (gTup K 3 (gCons (gName 8) (gCons (gName 9) (gCons (gName 10) gNil))))) rfl sc_contribution_row.nd (pi_seq (pv 1)) (blkOk_by (own := [("name", 8), ("payer", 9), ("payee", 10)]) (by kernel_rfl)) (fun _ _ _ _ _ => (pg_tup rfl (pgs_cons (pg_name (i := 8) sc_contribution_row.nd rfl (Or.inl rfl)) (pgs_cons (pg_name (i := 9) sc_contribution_row.nd rfl (Or.inl rfl)) (pgs_cons (pg_name (i := 10) sc_contribution_row.nd rfl (Or.inl rfl)) pgs_nil))))) (fun _ _ _ _ _ => pts_nil) (fun _ _ _ _ _ => (pe_op op_mulAll (pv 3) (pe_op op_addAll (pe_ix ix_seq (pe_ix (ix_all (u1 hr.units)) (pv 4) (pv 8) (fun _ _ => rfl)) (pv 9) (fun _ _ => rfl)) (pe_ix ix_seq (pe_ix (ix_all (u1 hr.units)) (pv 5) (pv 8) (fun _ _ => rfl)) (pv 10) (fun _ _ => rfl)))))) pa_nil))))))),
    (simS_seq (simS_asgO simN_dnew)
      (simS_seq (simS_asgO simN_dnew)
      (simS_seq (simS_for (simI_seq (sim_op rop_ix (simX_e sim_var) (simX_e sim_c_int))) simG_n (simS_seq (simS_put (sim_op rop_ix (simX_e sim_var) (simX_e sim_c_int)) (simN_e (simN_lc (simI_seq sim_var) simG_n (by decide) simT_yes (sim_call0 rfl (sim_cons (simX_e sim_var) (sim_cons (simX_e sim_var) (sim_cons (simX_e (sim_op rop_ix (simX_e sim_var) (simX_e sim_c_int))) sim_nil)))))))
      (simS_put (sim_op rop_ix (simX_e sim_var) (simX_e sim_c_int)) (simN_e (simN_lc (simI_seq sim_var) simG_n (by decide) simT_yes (sim_call0 rfl (sim_cons (simX_e sim_var) (sim_cons (simX_e sim_var) (sim_cons (simX_e (sim_op rop_ix (simX_e sim_var) (simX_e sim_c_int))) sim_nil)))))))))
      (simS_ret (sim_cb rcl_tup (sim_cons (simX_e (simN_e (simN_lc (simI_seq sim_var) (simG_t (simGs_cons simG_n (simGs_cons simG_n (simGs_cons simG_n simGs_nil)))) (by decide) simT_yes (sim_op rop_mul (simX_e sim_var) (simX_e (sim_op rop_add (simX_e (sim_op rop_ix (simX_e (sim_op rop_ixA simX_s (simX_e sim_var))) (simX_e sim_var))) (simX_e (sim_op rop_ix (simX_e (sim_op rop_ixA simX_s (simX_e sim_var))) (simX_e sim_var))))))))) sim_nil))))))⟩⟩
theorem ok__law_names (X : K.In base) (G : base.Ns mainGlobals mg) (c : He.SaysD fa fn K) : Ok P w K mg base "_law_names" 3 ["tape", "many"] (sp1 K 1 m__law_names) := by
  obtain ⟨fd, F⟩ := c.def_ 38 (d := d__law_names) rfl
  have g := He.glo_ok X G (c.fact 38 (f := .glo "_law_names") rfl)
  have t_list := He.free_ok X G (c.fact 66 (f := .free "list") rfl)
  have t_range := He.free_ok X G (c.fact 71 (f := .free "range") rfl)
  have t_len := He.free_ok X G (c.fact 67 (f := .free "len") rfl)
  have t_min := He.free_ok X G (c.fact 74 (f := .free "min") rfl)
  obtain ⟨⟨f__law_run, fd__law_run, g__law_run, kp__law_run, b__law_run, G__law_run⟩⟩ := ok__law_run (w := w) (P := P) X G c
  obtain ⟨⟨f__law_draw, fd__law_draw, g__law_draw, kp__law_draw, b__law_draw, G__law_draw⟩⟩ := ok__law_draw (w := w) (P := P) X G c
  obtain ⟨⟨f__law_reserved, fd__law_reserved, g__law_reserved, kp__law_reserved, b__law_reserved, G__law_reserved⟩⟩ := ok__law_reserved (w := w) (P := P) X G c
  obtain ⟨⟨f__law_letters, fd__law_letters, g__law_letters, kp__law_letters, b__law_letters, G__law_letters⟩⟩ := ok__law_letters (w := w) (P := P) X G c
  exact ⟨_, fd, g, F.kp, (F.bindsN (ps := ["tape", "many"]) (fun _ _ _ _ _ _ us hl => match us, hl with | [_, _], _ => rfl)), fn1 F sc__law_names fun cdv A outer s H E hr => ⟨_, PSs.nox (pss_cons (ps_set (i := 2) sc__law_names.nd rfl (Or.inl rfl) (pe_lst (pa_cons pe_str (pa_cons pe_str (pa_cons pe_str (pa_cons pe_str (pa_cons pe_str (pa_cons pe_str (pa_cons pe_str (pa_cons (pe_call G__law_run (hr.mono (by decide)) (by rfl) g__law_run kp__law_run b__law_run .nil pass0 (pa_cons (pv 0) (pa_cons (pe_call G__law_draw (hr.mono (by decide)) (by rfl) g__law_draw kp__law_draw b__law_draw .nil pass0 (pa_cons (pv 0) (pa_cons pe_int pa_nil))) pa_nil))) (pa_cons (pe_call G__law_run (hr.mono (by decide)) (by rfl) g__law_run kp__law_run b__law_run .nil pass0 (pa_cons (pv 0) (pa_cons pe_int pa_nil))) pa_nil)))))))))))
      (pss_cons (ps_set (i := 3) sc__law_names.nd rfl (Or.inl rfl) (pe_ix ix_seq (pv 2) (pe_call G__law_draw (hr.mono (by decide)) (by rfl) g__law_draw kp__law_draw b__law_draw .nil pass0 (pa_cons (pv 0) (pa_cons pe_int pa_nil))) (fun _ _ => rfl)))
      (pss_cons (ps_set (i := 4) sc__law_names.nd rfl (Or.inl rfl) (pe_lst (pa_cons pe_str (pa_cons pe_str (pa_cons pe_str (pa_cons pe_str (pa_cons pe_str (pa_cons pe_str (pa_cons pe_str (pa_cons pe_str pa_nil))))))))))
      (pss_cons (ps_set (i := 5) sc__law_names.nd rfl (Or.inl rfl) (pe_call0 G__law_reserved (hr.mono (by decide)) (by rfl) g__law_reserved kp__law_reserved b__law_reserved .nil pass0))
      (pss_cons (ps_set (i := 6) sc__law_names.nd rfl (Or.inl rfl) (pe_callTy (call_listA rfl) (by rfl) t_list bt_list (pa_cons (pe_call0 G__law_letters (hr.mono (by decide)) (by rfl) g__law_letters kp__law_letters b__law_letters .nil pass0) pa_nil)))
      (pss_cons (ps_set (i := 7) sc__law_names.nd rfl (Or.inl rfl) (pe_lst pa_nil))
      (pss_cons (ps_for PassesOwn.never rfl (pi_range1 (by rfl) t_range (pa_cons (pv 1) pa_nil)) (pg_name (i := 8) sc__law_names.nd rfl (Or.inl rfl)) (pss_cons (ps_set (i := 9) sc__law_names.nd rfl (Or.inl rfl) (pe_op op_addAll (pv 3) (pe_bm PySem.F.plainAttrs_list PySem.F.slot_list_pop PySem.F.type_list_pop mt_popAt (pv 6) (pa_cons (pe_call G__law_draw (hr.mono (by decide)) (by rfl) g__law_draw kp__law_draw b__law_draw .nil pass0 (pa_cons (pv 0) (pa_cons (pe_callB call_lenAll (by rfl) t_len bt_len (pa_cons (pv 6) pa_nil)) pa_nil))) pa_nil))))
      (pss_cons (ps_set (i := 9) sc__law_names.nd rfl (Or.inl rfl) (pe_op op_addAll (pv 9) (pe_call G__law_run (hr.mono (by decide)) (by rfl) g__law_run kp__law_run b__law_run .nil pass0 (pa_cons (pv 0) (pa_cons (pe_ix ix_seq (pe_lst (pa_cons pe_int (pa_cons pe_int (pa_cons pe_int (pa_cons pe_int pa_nil))))) (pe_call G__law_draw (hr.mono (by decide)) (by rfl) g__law_draw kp__law_draw b__law_draw .nil pass0 (pa_cons (pv 0) (pa_cons pe_int pa_nil))) (fun _ _ => rfl)) pa_nil)))))
      (pss_cons (ps_if (pt_cmpR op_in_seq (pv 9) (pv 5) rfl) (pss_one (ps_set (i := 9) sc__law_names.nd rfl (Or.inl rfl) (pe_op op_addAll (pv 9) pe_str))) pss_nil)
      (pss_one (ps_expr (pe_bm PySem.F.plainAttrs_list PySem.F.slot_list_append PySem.F.type_list_append mt_append (pv 7) (pa_cons (pv 9) pa_nil))))))))
      (pss_cons (ps_if (pt_cmpR (op_eqAll hr.units) (pe_call G__law_draw (hr.mono (by decide)) (by rfl) g__law_draw kp__law_draw b__law_draw .nil pass0 (pa_cons (pv 0) (pa_cons pe_int pa_nil))) pe_int (nomark _)) (pss_one (ps_for PassesOwn.never rfl (pi_range1 (by rfl) t_range (pa_cons (pe_callB (call_min2 rfl) (by rfl) t_min bt_min (pa_cons (pv 1) (pa_cons pe_int pa_nil))) pa_nil)) (pg_name (i := 8) sc__law_names.nd rfl (Or.inl rfl)) (pss_cons (ps_set (i := 10) sc__law_names.nd rfl (Or.inl rfl) (pe_ix ix_seq (pv 4) (pe_call G__law_draw (hr.mono (by decide)) (by rfl) g__law_draw kp__law_draw b__law_draw .nil pass0 (pa_cons (pv 0) (pa_cons pe_int pa_nil))) (fun _ _ => rfl)))
      (pss_one (ps_if (pt_cmpR op_notIn_seq (pv 10) (pv 7) rfl) (pss_one (ps_asg (pv 10) (pg_sub (pv 7) (pv 8) set_list))) pss_nil))))) pss_nil)
      (pss_one (ps_ret (pv 7))))))))))),
    (simS_seq (simS_asg (simN_e (simN_lst (Nat.le_of_ble_eq_true rfl) (sim_cons (simX_e sim_c_str) (sim_cons (simX_e sim_c_str) (sim_cons (simX_e sim_c_str) (sim_cons (simX_e sim_c_str) (sim_cons (simX_e sim_c_str) (sim_cons (simX_e sim_c_str) (sim_cons (simX_e sim_c_str) (sim_cons (simX_e (sim_call1 rfl (sim_cons (simX_e (sim_call1 rfl (sim_cons (simX_e sim_c_int) sim_nil))) sim_nil))) (sim_cons (simX_e (sim_call1 rfl (sim_cons (simX_e sim_c_int) sim_nil))) sim_nil))))))))))) simG_n)
      (simS_seq (simS_asg (sim_op rop_ix (simX_e sim_var) (simX_e (sim_call1 rfl (sim_cons (simX_e sim_c_int) sim_nil)))) simG_n)
      (simS_seq (simS_asg (simN_e (simN_lst (Nat.le_of_ble_eq_true rfl) (sim_cons (simX_e sim_c_str) (sim_cons (simX_e sim_c_str) (sim_cons (simX_e sim_c_str) (sim_cons (simX_e sim_c_str) (sim_cons (simX_e sim_c_str) (sim_cons (simX_e sim_c_str) (sim_cons (simX_e sim_c_str) (sim_cons (simX_e sim_c_str) sim_nil)))))))))) simG_n)
      (simS_seq (simS_asg (sim_call0 rfl sim_nil) simG_n)
      (simS_seq (simS_asgO (simN_listA (sim_cons (simX_e (sim_call0 rfl sim_nil)) sim_nil)))
      (simS_seq (simS_asgO (simN_lst (Nat.le_of_ble_eq_true rfl) sim_nil))
      (simS_seq (simS_for (simI_rng1 (sim_cons (simX_e sim_var) sim_nil)) simG_n (simS_seq (simS_asg (sim_op rop_add (simX_e sim_var) (simX_e (sim_mut rmut_popAt (sim_cons (simX_e (sim_call1 rfl (sim_cons (simX_e (sim_cb rcl_len (sim_cons simX_s sim_nil))) sim_nil))) sim_nil)))) simG_n)
      (simS_seq (simS_asg (sim_op rop_add (simX_e sim_var) (simX_e (sim_call1 rfl (sim_cons (simX_e (sim_op rop_ix (simX_e (simN_e (simN_lst (Nat.le_of_ble_eq_true rfl) (sim_cons (simX_e sim_c_int) (sim_cons (simX_e sim_c_int) (sim_cons (simX_e sim_c_int) (sim_cons (simX_e sim_c_int) sim_nil))))))) (simX_e (sim_call1 rfl (sim_cons (simX_e sim_c_int) sim_nil))))) sim_nil)))) simG_n)
      (simS_seq (simS_if (simT_test (sim_op rop_in (simX_e sim_var) (simX_e sim_var))) (simS_asg (sim_op rop_add (simX_e sim_var) (simX_e sim_c_str)) simG_n) simS_next)
      (simS_expr (sim_mut rmut_app (sim_cons (simX_e sim_var) sim_nil)))))))
      (simS_seq (simS_if (simT_test (sim_op rop_eq (simX_e (sim_call1 rfl (sim_cons (simX_e sim_c_int) sim_nil))) (simX_e sim_c_int))) (simS_for (simI_rng1 (sim_cons (simX_e (sim_cb rcl_min2 (sim_cons (simX_e sim_var) (sim_cons (simX_e sim_c_int) sim_nil)))) sim_nil)) simG_n (simS_seq (simS_asg (sim_op rop_ix (simX_e sim_var) (simX_e (sim_call1 rfl (sim_cons (simX_e sim_c_int) sim_nil)))) simG_n)
      (simS_if (simT_test (sim_op rop_in (simX_e sim_var) simX_s)) (simS_set sim_var sim_var) simS_next))) simS_next)
      (simS_frz (i := 7) (simS_ret sim_var))))))))))⟩⟩
theorem ok__law_sector (n : Nat) (X : K.In base) (G : base.Ns mainGlobals mg) (c : He.SaysD fa fn K) : Ok P w K mg base "_law_sector" (n + 3) ["tape", "sectors", "size", "depth", "level"] (sp1 K 4 (m__law_sector n)) := by
  induction n with
  | zero =>
    obtain ⟨fd, F⟩ := c.def_ 39 (d := d__law_sector) rfl
    have g := He.glo_ok X G (c.fact 39 (f := .glo "_law_sector") rfl)
    exact ⟨_, fd, g, F.kp, (F.bindsN (ps := ["tape", "sectors", "size", "depth", "level"]) (fun _ _ _ _ _ _ us hl => match us, hl with | [_, _, _, _, _], _ => rfl)), none1 F sc__law_sector⟩
  | succ n ih =>
    obtain ⟨fd, F⟩ := c.def_ 39 (d := d__law_sector) rfl
    have g := He.glo_ok X G (c.fact 39 (f := .glo "_law_sector") rfl)
    obtain ⟨⟨f__law_draw, fd__law_draw, g__law_draw, kp__law_draw, b__law_draw, G__law_draw⟩⟩ := ok__law_draw (w := w) (P := P) X G c
    obtain ⟨⟨f__law_leaf, fd__law_leaf, g__law_leaf, kp__law_leaf, b__law_leaf, G__law_leaf⟩⟩ := ok__law_leaf (w := w) (P := P) X G c
    obtain ⟨⟨f__law_sector, fd__law_sector, g__law_sector, kp__law_sector, b__law_sector, G__law_sector⟩⟩ := ih
    exact ⟨_, fd, g, F.kp, (F.bindsN (ps := ["tape", "sectors", "size", "depth", "level"]) (fun _ _ _ _ _ _ us hl => match us, hl with | [_, _, _, _, _], _ => rfl)), fn1 F sc__law_sector fun cdv A outer s H E hr => ⟨_, PSs.nox (pss_cons (ps_set (i := 5) sc__law_sector.nd rfl (Or.inl rfl) (pe_ix ix_seq (pe_lst (pa_cons pe_str (pa_cons pe_str (pa_cons pe_str (pa_cons pe_str (pa_cons pe_str (pa_cons pe_str (pa_cons pe_str (pa_cons pe_str pa_nil))))))))) (pe_call G__law_draw (hr.mono (by omega)) (by rfl) g__law_draw kp__law_draw b__law_draw .nil pass0 (pa_cons (pv 0) (pa_cons pe_int pa_nil))) (fun _ _ => rfl)))
      (pss_cons (ps_if (PW.pt (pw_and (pt_cmpR op_lt (pv 2) pe_int (nomark _)) (pw_and1 (pt_cmpR (op_neAll hr.units) (pv 5) pe_str (nomark _))))) (pss_one (ps_set (i := 5) sc__law_sector.nd rfl (Or.inl rfl) pe_str)) pss_nil)
      (pss_cons (ps_if (pt_cmpR (op_eqAll hr.units) (pv 5) pe_str (nomark _)) (pss_one (ps_ret (pe_call G__law_leaf (hr.mono (by omega)) (by rfl) g__law_leaf kp__law_leaf b__law_leaf .nil pass0 (pa_cons (pv 0) (pa_cons (pv 1) pa_nil))))) pss_nil)
      (pss_cons (ps_set (i := 6) sc__law_sector.nd rfl (Or.inl rfl) (pe_bm PySem.F.plainAttrs_list PySem.F.slot_list_index PySem.F.type_list_index mt_index (pe_lst (pa_cons pe_str (pa_cons pe_str (pa_cons pe_str pa_nil)))) (pa_cons (pv 5) pa_nil)))
      (pss_cons (ps_if (PW.pt (pw_and (pt_cmpR op_lt (pv 6) (pv 4) (nomark _)) (pw_and1 (pt_cmpR (op_eqAll hr.units) (pv 3) pe_int (nomark _))))) (pss_one (ps_ret (pe_call G__law_leaf (hr.mono (by omega)) (by rfl) g__law_leaf kp__law_leaf b__law_leaf .nil pass0 (pa_cons (pv 0) (pa_cons (pv 1) pa_nil))))) pss_nil)
      (pss_cons (ps_if (pt_cmpR op_lt (pv 6) (pv 4) (nomark _)) (pss_one (ps_set (i := 3) sc__law_sector.nd rfl (Or.inl rfl) (pe_op op_sub (pv 3) pe_int))) pss_nil)
      (pss_cons (ps_if (pt_cmpR (op_eqAll hr.units) (pv 5) pe_str (nomark _)) (pss_one (ps_ret (pe_tupF (pa_cons pe_str (pa_cons (pe_call G__law_sector (hr.mono (by omega)) (by rfl) g__law_sector kp__law_sector b__law_sector .nil pass0 (pa_cons (pv 0) (pa_cons (pv 1) (pa_cons (pv 2) (pa_cons (pv 3) (pa_cons pe_int pa_nil)))))) pa_nil))))) pss_nil)
      (pss_cons (ps_set (i := 7) sc__law_sector.nd rfl (Or.inl rfl) (pe_op op_addAll pe_int (pe_call G__law_draw (hr.mono (by omega)) (by rfl) g__law_draw kp__law_draw b__law_draw .nil pass0 (pa_cons (pv 0) (pa_cons (pe_op op_sub (pv 2) pe_int) pa_nil)))))
      (pss_cons (ps_set (i := 8) sc__law_sector.nd rfl (Or.inl rfl) (pe_call G__law_sector (hr.mono (by omega)) (by rfl) g__law_sector kp__law_sector b__law_sector .nil pass0 (pa_cons (pv 0) (pa_cons (pv 1) (pa_cons (pv 7) (pa_cons (pv 3) (pa_cons (pv 6) pa_nil)))))))
      (pss_one (ps_ret (pe_tupF (pa_cons (pv 5) (pa_cons (pv 8) (pa_cons (pe_call G__law_sector (hr.mono (by omega)) (by rfl) g__law_sector kp__law_sector b__law_sector .nil pass0 (pa_cons (pv 0) (pa_cons (pv 1) (pa_cons (pe_op op_sub (pv 2) (pv 7)) (pa_cons (pv 3) (pa_cons (pe_op op_addAll (pv 6) pe_int) pa_nil)))))) pa_nil))))))))))))))),
    (simS_seq (simS_asg (sim_op rop_ix (simX_e (simN_e (simN_lst (Nat.le_of_ble_eq_true rfl) (sim_cons (simX_e sim_c_str) (sim_cons (simX_e sim_c_str) (sim_cons (simX_e sim_c_str) (sim_cons (simX_e sim_c_str) (sim_cons (simX_e sim_c_str) (sim_cons (simX_e sim_c_str) (sim_cons (simX_e sim_c_str) (sim_cons (simX_e sim_c_str) sim_nil))))))))))) (simX_e (sim_call1 rfl (sim_cons (simX_e sim_c_int) sim_nil)))) simG_n)
      (simS_seq (simS_if (simT_and (simT_test (sim_op rop_lt (simX_e sim_var) (simX_e sim_c_int))) (simT_test (sim_op rop_ne (simX_e sim_var) (simX_e sim_c_str)))) (simS_asg sim_c_str simG_n) simS_next)
      (simS_seq (simS_if (simT_test (sim_op rop_eq (simX_e sim_var) (simX_e sim_c_str))) (simS_ret (sim_call1 rfl (sim_cons (simX_e sim_var) sim_nil))) simS_next)
      (simS_seq (simS_asg (sim_idxL (simN_e (simN_lst (Nat.le_of_ble_eq_true rfl) (sim_cons (simX_e sim_c_str) (sim_cons (simX_e sim_c_str) (sim_cons (simX_e sim_c_str) sim_nil))))) (simX_e sim_var)) simG_n)
      (simS_seq (simS_if (simT_and (simT_test (sim_op rop_lt (simX_e sim_var) (simX_e sim_var))) (simT_test (sim_op rop_eq (simX_e sim_var) (simX_e sim_c_int)))) (simS_ret (sim_call1 rfl (sim_cons (simX_e sim_var) sim_nil))) simS_next)
      (simS_seq (simS_if (simT_test (sim_op rop_lt (simX_e sim_var) (simX_e sim_var))) (simS_asg (sim_op rop_sub (simX_e sim_var) (simX_e sim_c_int)) simG_n) simS_next)
      (simS_seq (simS_if (simT_test (sim_op rop_eq (simX_e sim_var) (simX_e sim_c_str))) (simS_ret (sim_tup (Nat.le_of_ble_eq_true rfl) (sim_cons (simX_e sim_c_str) (sim_cons (simX_e (sim_call1 rfl (sim_cons (simX_e sim_var) (sim_cons (simX_e sim_var) (sim_cons (simX_e sim_var) (sim_cons (simX_e sim_c_int) sim_nil)))))) sim_nil)))) simS_next)
      (simS_seq (simS_asg (sim_op rop_add (simX_e sim_c_int) (simX_e (sim_call1 rfl (sim_cons (simX_e (sim_op rop_sub (simX_e sim_var) (simX_e sim_c_int))) sim_nil)))) simG_n)
      (simS_seq (simS_asg (sim_call1 rfl (sim_cons (simX_e sim_var) (sim_cons (simX_e sim_var) (sim_cons (simX_e sim_var) (sim_cons (simX_e sim_var) sim_nil))))) simG_n)
      (simS_ret (sim_tup (Nat.le_of_ble_eq_true rfl) (sim_cons (simX_e sim_var) (sim_cons (simX_e sim_var) (sim_cons (simX_e (sim_call1 rfl (sim_cons (simX_e sim_var) (sim_cons (simX_e (sim_op rop_sub (simX_e sim_var) (simX_e sim_var))) (sim_cons (simX_e sim_var) (sim_cons (simX_e (sim_op rop_add (simX_e sim_var) (simX_e sim_c_int))) sim_nil)))))) sim_nil))))))))))))))⟩⟩
theorem ok__law_deep (X : K.In base) (G : base.Ns mainGlobals mg) (c : He.SaysD fa fn K) : Ok P w K mg base "_law_deep" 3 ["tape", "sectors", "depth"] (sp1 K 2 m__law_deep) := by
  obtain ⟨fd, F⟩ := c.def_ 40 (d := d__law_deep) rfl
  have g := He.glo_ok X G (c.fact 40 (f := .glo "_law_deep") rfl)
  have t_range := He.free_ok X G (c.fact 71 (f := .free "range") rfl)
  obtain ⟨⟨f__law_leaf, fd__law_leaf, g__law_leaf, kp__law_leaf, b__law_leaf, G__law_leaf⟩⟩ := ok__law_leaf (w := w) (P := P) X G c
  obtain ⟨⟨f__law_draw, fd__law_draw, g__law_draw, kp__law_draw, b__law_draw, G__law_draw⟩⟩ := ok__law_draw (w := w) (P := P) X G c
  exact ⟨_, fd, g, F.kp, (F.bindsN (ps := ["tape", "sectors", "depth"]) (fun _ _ _ _ _ _ us hl => match us, hl with | [_, _, _], _ => rfl)), fn1 F sc__law_deep fun cdv A outer s H E hr => ⟨_, PSs.nox (pss_cons (ps_set (i := 3) sc__law_deep.nd rfl (Or.inl rfl) (pe_tupF (pa_cons pe_str (pa_cons (pe_call G__law_leaf (hr.mono (by decide)) (by rfl) g__law_leaf kp__law_leaf b__law_leaf .nil pass0 (pa_cons (pv 0) (pa_cons (pv 1) pa_nil))) (pa_cons (pe_call G__law_leaf (hr.mono (by decide)) (by rfl) g__law_leaf kp__law_leaf b__law_leaf .nil pass0 (pa_cons (pv 0) (pa_cons (pv 1) pa_nil))) pa_nil)))))
      (pss_cons (ps_for PassesOwn.never rfl (pi_range1 (by rfl) t_range (pa_cons (pv 2) pa_nil)) (pg_name (i := 4) sc__law_deep.nd rfl (Or.inl rfl)) (pss_cons (ps_set (i := 5) sc__law_deep.nd rfl (Or.inl rfl) (pe_call G__law_draw (hr.mono (by decide)) (by rfl) g__law_draw kp__law_draw b__law_draw .nil pass0 (pa_cons (pv 0) (pa_cons pe_int pa_nil))))
      (pss_one (ps_if (PW.pt (pw_and (pt_cmpR (op_eqAll hr.units) (pv 5) pe_int (nomark _)) (pw_and1 (pt_cmpR (op_eqAll hr.units) (pe_ix ix_seq (pv 3) pe_int (fun _ _ => rfl)) pe_str (nomark _))))) (pss_one (ps_set (i := 3) sc__law_deep.nd rfl (Or.inl rfl) (pe_tupF (pa_cons pe_str (pa_cons (pe_call G__law_leaf (hr.mono (by decide)) (by rfl) g__law_leaf kp__law_leaf b__law_leaf .nil pass0 (pa_cons (pv 0) (pa_cons (pv 1) pa_nil))) (pa_cons (pv 3) pa_nil)))))) (pss_one (ps_if (PW.pt (pw_and (pt_cmpR op_lt (pv 5) pe_int (nomark _)) (pw_and1 (pt_cmpR (op_neAll hr.units) (pe_ix ix_seq (pv 3) pe_int (fun _ _ => rfl)) pe_str (nomark _))))) (pss_one (ps_set (i := 3) sc__law_deep.nd rfl (Or.inl rfl) (pe_tupF (pa_cons pe_str (pa_cons (pe_call G__law_leaf (hr.mono (by decide)) (by rfl) g__law_leaf kp__law_leaf b__law_leaf .nil pass0 (pa_cons (pv 0) (pa_cons (pv 1) pa_nil))) (pa_cons (pv 3) pa_nil)))))) (pss_one (ps_if (PW.pt (pw_and (pt_cmpR (op_eqAll hr.units) (pv 5) pe_int (nomark _)) (pw_and1 (pt_cmpR (op_eqAll hr.units) (pe_ix ix_seq (pv 3) pe_int (fun _ _ => rfl)) pe_str (nomark _))))) (pss_one (ps_set (i := 3) sc__law_deep.nd rfl (Or.inl rfl) (pe_tupF (pa_cons pe_str (pa_cons (pv 3) (pa_cons (pe_call G__law_leaf (hr.mono (by decide)) (by rfl) g__law_leaf kp__law_leaf b__law_leaf .nil pass0 (pa_cons (pv 0) (pa_cons (pv 1) pa_nil))) pa_nil)))))) (pss_one (ps_set (i := 3) sc__law_deep.nd rfl (Or.inl rfl) (pe_tupF (pa_cons pe_str (pa_cons (pv 3) pa_nil)))))))))))))
      (pss_one (ps_ret (pv 3))))),
    (simS_seq (simS_asg (sim_tup (Nat.le_of_ble_eq_true rfl) (sim_cons (simX_e sim_c_str) (sim_cons (simX_e (sim_call1 rfl (sim_cons (simX_e sim_var) sim_nil))) (sim_cons (simX_e (sim_call1 rfl (sim_cons (simX_e sim_var) sim_nil))) sim_nil)))) simG_n)
      (simS_seq (simS_for (simI_rng1 (sim_cons (simX_e sim_var) sim_nil)) simG_n (simS_seq (simS_asg (sim_call1 rfl (sim_cons (simX_e sim_c_int) sim_nil)) simG_n)
      (simS_if (simT_and (simT_test (sim_op rop_eq (simX_e sim_var) (simX_e sim_c_int))) (simT_test (sim_op rop_eq (simX_e (sim_op rop_ix (simX_e sim_var) (simX_e sim_c_int))) (simX_e sim_c_str)))) (simS_asg (sim_tup (Nat.le_of_ble_eq_true rfl) (sim_cons (simX_e sim_c_str) (sim_cons (simX_e (sim_call1 rfl (sim_cons (simX_e sim_var) sim_nil))) (sim_cons (simX_e sim_var) sim_nil)))) simG_n) (simS_if (simT_and (simT_test (sim_op rop_lt (simX_e sim_var) (simX_e sim_c_int))) (simT_test (sim_op rop_ne (simX_e (sim_op rop_ix (simX_e sim_var) (simX_e sim_c_int))) (simX_e sim_c_str)))) (simS_asg (sim_tup (Nat.le_of_ble_eq_true rfl) (sim_cons (simX_e sim_c_str) (sim_cons (simX_e (sim_call1 rfl (sim_cons (simX_e sim_var) sim_nil))) (sim_cons (simX_e sim_var) sim_nil)))) simG_n) (simS_if (simT_and (simT_test (sim_op rop_eq (simX_e sim_var) (simX_e sim_c_int))) (simT_test (sim_op rop_eq (simX_e (sim_op rop_ix (simX_e sim_var) (simX_e sim_c_int))) (simX_e sim_c_str)))) (simS_asg (sim_tup (Nat.le_of_ble_eq_true rfl) (sim_cons (simX_e sim_c_str) (sim_cons (simX_e sim_var) (sim_cons (simX_e (sim_call1 rfl (sim_cons (simX_e sim_var) sim_nil))) sim_nil)))) simG_n) (simS_asg (sim_tup (Nat.le_of_ble_eq_true rfl) (sim_cons (simX_e sim_c_str) (sim_cons (simX_e sim_var) sim_nil))) simG_n))))))
      (simS_ret sim_var)))⟩⟩
theorem ok__law_entries (X : K.In base) (G : base.Ns mainGlobals mg) (c : He.SaysD fa fn K) : Ok P w K mg base "_law_entries" 3 ["tape", "accounts", "wide"] (sp1 K 2 m__law_entries) := by
  obtain ⟨fd, F⟩ := c.def_ 41 (d := d__law_entries) rfl
  have g := He.glo_ok X G (c.fact 41 (f := .glo "_law_entries") rfl)
  have t_list := He.free_ok X G (c.fact 66 (f := .free "list") rfl)
  have t_range := He.free_ok X G (c.fact 71 (f := .free "range") rfl)
  have t_len := He.free_ok X G (c.fact 67 (f := .free "len") rfl)
  have t_tuple := He.free_ok X G (c.fact 70 (f := .free "tuple") rfl)
  obtain ⟨⟨f__law_draw, fd__law_draw, g__law_draw, kp__law_draw, b__law_draw, G__law_draw⟩⟩ := ok__law_draw (w := w) (P := P) X G c
  obtain ⟨⟨f__law_number, fd__law_number, g__law_number, kp__law_number, b__law_number, G__law_number⟩⟩ := ok__law_number (w := w) (P := P) X G c
  exact ⟨_, fd, g, F.kp, (F.bindsN (ps := ["tape", "accounts", "wide"]) (fun _ _ _ _ _ _ us hl => match us, hl with | [_, _, _], _ => rfl)), fn1 F sc__law_entries fun cdv A outer s H E hr => ⟨_, PSs.nox (pss_cons (ps_set (i := 3) sc__law_entries.nd rfl (Or.inl rfl) (pe_callTy (call_listA rfl) (by rfl) t_list bt_list (pa_cons (pv 1) pa_nil)))
      (pss_cons (ps_set (i := 4) sc__law_entries.nd rfl (Or.inl rfl) (pe_lst pa_nil))
      (pss_cons (ps_for PassesOwn.never rfl (pi_range1 (by rfl) t_range (pa_cons (pe_call G__law_draw (hr.mono (by decide)) (by rfl) g__law_draw kp__law_draw b__law_draw .nil pass0 (pa_cons (pv 0) (pa_cons (pe_op op_addAll (pe_callB call_lenAll (by rfl) t_len bt_len (pa_cons (pv 1) pa_nil)) pe_int) pa_nil))) pa_nil)) (pg_name (i := 5) sc__law_entries.nd rfl (Or.inl rfl)) (pss_cons (ps_set (i := 6) sc__law_entries.nd rfl (Or.inl rfl) (pe_bm PySem.F.plainAttrs_list PySem.F.slot_list_pop PySem.F.type_list_pop mt_popAt (pv 3) (pa_cons (pe_call G__law_draw (hr.mono (by decide)) (by rfl) g__law_draw kp__law_draw b__law_draw .nil pass0 (pa_cons (pv 0) (pa_cons (pe_callB call_lenAll (by rfl) t_len bt_len (pa_cons (pv 3) pa_nil)) pa_nil))) pa_nil)))
      (pss_one (ps_expr (pe_bm PySem.F.plainAttrs_list PySem.F.slot_list_append PySem.F.type_list_append mt_append (pv 4) (pa_cons (pe_tupF (pa_cons (pv 6) (pa_cons (pe_call G__law_number (hr.mono (by decide)) (by rfl) g__law_number kp__law_number b__law_number .nil pass0 (pa_cons (pv 0) (pa_cons (pv 2) pa_nil))) pa_nil))) pa_nil))))))
      (pss_one (ps_ret (pe_callTy call_tuple_ofF (by rfl) t_tuple bt_tuple (pa_cons (pv 4) pa_nil))))))),
    (simS_seq (simS_asgO (simN_listA (sim_cons (simX_e sim_var) sim_nil)))
      (simS_seq (simS_asgO (simN_lst (Nat.le_of_ble_eq_true rfl) sim_nil))
      (simS_seq (simS_for (simI_rng1 (sim_cons (simX_e (sim_call1 rfl (sim_cons (simX_e (sim_op rop_add (simX_e (sim_cb rcl_len (sim_cons (simX_e sim_var) sim_nil))) (simX_e sim_c_int))) sim_nil))) sim_nil)) simG_n (simS_seq (simS_asg (sim_mut rmut_popAt (sim_cons (simX_e (sim_call1 rfl (sim_cons (simX_e (sim_cb rcl_len (sim_cons simX_s sim_nil))) sim_nil))) sim_nil)) simG_n)
      (simS_expr (sim_mut rmut_app (sim_cons (simX_e (sim_tup (Nat.le_of_ble_eq_true rfl) (sim_cons (simX_e sim_var) (sim_cons (simX_e (sim_call1 rfl (sim_cons (simX_e sim_var) sim_nil))) sim_nil)))) sim_nil)))))
      (simS_ret (sim_cb rcl_tup (sim_cons simX_s sim_nil))))))⟩⟩
theorem ok__law_people (X : K.In base) (G : base.Ns mainGlobals mg) (c : He.SaysD fa fn K) : Ok P w K mg base "_law_people" 3 ["tape", "sectors", "many"] (sp1 K 2 m__law_people) := by
  obtain ⟨fd, F⟩ := c.def_ 42 (d := d__law_people) rfl
  have g := He.glo_ok X G (c.fact 42 (f := .glo "_law_people") rfl)
  have t_range := He.free_ok X G (c.fact 71 (f := .free "range") rfl)
  have t_len := He.free_ok X G (c.fact 67 (f := .free "len") rfl)
  have t_tuple := He.free_ok X G (c.fact 70 (f := .free "tuple") rfl)
  obtain ⟨⟨f__law_sets, fd__law_sets, g__law_sets, kp__law_sets, b__law_sets, G__law_sets⟩⟩ := ok__law_sets (w := w) (P := P) X G c
  obtain ⟨⟨f__law_draw, fd__law_draw, g__law_draw, kp__law_draw, b__law_draw, G__law_draw⟩⟩ := ok__law_draw (w := w) (P := P) X G c
  obtain ⟨⟨f__law_order, fd__law_order, g__law_order, kp__law_order, b__law_order, G__law_order⟩⟩ := ok__law_order (w := w) (P := P) X G c
  exact ⟨_, fd, g, F.kp, (F.bindsN (ps := ["tape", "sectors", "many"]) (fun _ _ _ _ _ _ us hl => match us, hl with | [_, _, _], _ => rfl)), fn1 F sc__law_people fun cdv A outer s H E hr => ⟨_, PSs.nox (pss_cons (ps_set (i := 3) sc__law_people.nd rfl (Or.inl rfl) (pe_call G__law_sets (hr.mono (by decide)) (by rfl) g__law_sets kp__law_sets b__law_sets .nil pass0 (pa_cons (pv 1) pa_nil)))
      (pss_cons (ps_set (i := 4) sc__law_people.nd rfl (Or.inl rfl) (pe_lst pa_nil))
      (pss_cons (ps_for PassesOwn.never rfl (pi_range1 (by rfl) t_range (pa_cons (pv 2) pa_nil)) (pg_name (i := 5) sc__law_people.nd rfl (Or.inl rfl)) (pss_cons (ps_set (i := 6) sc__law_people.nd rfl (Or.inr rfl) (pe_ix ix_seq (pv 3) (pe_call G__law_draw (hr.mono (by decide)) (by rfl) g__law_draw kp__law_draw b__law_draw .nil pass0 (pa_cons (pv 0) (pa_cons (pe_callB call_lenAll (by rfl) t_len bt_len (pa_cons (pv 3) pa_nil)) pa_nil))) (fun _ _ => rfl)))
      (pss_one (ps_expr (pe_bm PySem.F.plainAttrs_list PySem.F.slot_list_append PySem.F.type_list_append mt_append (pv 4) (pa_cons (pe_callTy call_tuple_ofF (by rfl) t_tuple bt_tuple (pa_cons (pe_lc (own := [("at", 7)]) (g := (gName 7)) rfl sc__law_people.nd (pi_seq (pe_call G__law_order (hr.mono (by decide)) (by rfl) g__law_order kp__law_order b__law_order .nil pass0 (pa_cons (pv 0) (pa_cons (pe_callB call_lenAll (by rfl) t_len bt_len (pa_cons (pv 6) pa_nil)) pa_nil)))) (blkOk_by (own := [("at", 7)]) (by kernel_rfl)) (fun _ _ _ _ _ => (pg_name (i := 7) sc__law_people.nd rfl (Or.inl rfl))) (fun _ _ _ _ _ => pts_nil) (fun _ _ _ _ _ => (pe_ix ix_seq (pv 6) (pv 7) (fun _ _ => rfl)))) pa_nil)) pa_nil))))))
      (pss_one (ps_ret (pv 4)))))),
    (simS_seq (simS_asg (sim_call0 rfl (sim_cons (simX_e sim_var) sim_nil)) simG_n)
      (simS_seq (simS_asgO (simN_lst (Nat.le_of_ble_eq_true rfl) sim_nil))
      (simS_seq (simS_for (simI_rng1 (sim_cons (simX_e sim_var) sim_nil)) simG_n (simS_seq (simS_asg (sim_op rop_ix (simX_e sim_var) (simX_e (sim_call1 rfl (sim_cons (simX_e (sim_cb rcl_len (sim_cons (simX_e sim_var) sim_nil))) sim_nil)))) simG_n)
      (simS_expr (sim_mut rmut_app (sim_cons (simX_e (sim_cb rcl_tup (sim_cons (simX_e (simN_e (simN_lc (simI_seq (sim_call1 rfl (sim_cons (simX_e (sim_cb rcl_len (sim_cons (simX_e sim_var) sim_nil))) sim_nil))) simG_n (by decide) simT_yes (sim_op rop_ix (simX_e sim_var) (simX_e sim_var))))) sim_nil))) sim_nil)))))
      (simS_frz (i := 4) (simS_ret sim_var)))))⟩⟩
theorem ok__law_deal (X : K.In base) (G : base.Ns mainGlobals mg) (c : He.SaysD fa fn K) : Ok P w K mg base "_law_deal" 43 ["tape", "kind", "people"] (sp1 K 2 m__law_deal) := by
  obtain ⟨fd, F⟩ := c.def_ 43 (d := d__law_deal) rfl
  have g := He.glo_ok X G (c.fact 43 (f := .glo "_law_deal") rfl)
  have t_len := He.free_ok X G (c.fact 67 (f := .free "len") rfl)
  obtain ⟨⟨f__law_members, fd__law_members, g__law_members, kp__law_members, b__law_members, G__law_members⟩⟩ := ok__law_members (w := w) (P := P) X G c
  obtain ⟨⟨f__law_draw, fd__law_draw, g__law_draw, kp__law_draw, b__law_draw, G__law_draw⟩⟩ := ok__law_draw (w := w) (P := P) X G c
  obtain ⟨⟨f__law_amount, fd__law_amount, g__law_amount, kp__law_amount, b__law_amount, G__law_amount⟩⟩ := ok__law_amount (w := w) (P := P) X G c
  exact ⟨_, fd, g, F.kp, (F.bindsN (ps := ["tape", "kind", "people"]) (fun _ _ _ _ _ _ us hl => match us, hl with | [_, _, _], _ => rfl)), fn1 F sc__law_deal fun cdv A outer s H E hr => ⟨_, PSs.nox (pss_cons (ps_set (i := 3) sc__law_deal.nd rfl (Or.inl rfl) (pe_call G__law_members (hr.mono (by decide)) (by rfl) g__law_members kp__law_members b__law_members .nil pass0 (pa_cons (pv 2) (pa_cons (pe_ix ix_seq (pv 1) pe_int (fun _ _ => rfl)) pa_nil))))
      (pss_cons (ps_if (pt_not (pt_truth (pv 3) (fun _ => rfl))) (pss_one (ps_ret pe_non)) pss_nil)
      (pss_cons (ps_set (i := 4) sc__law_deal.nd rfl (Or.inr rfl) (pe_ix ix_seq (pv 3) (pe_call G__law_draw (hr.mono (by decide)) (by rfl) g__law_draw kp__law_draw b__law_draw .nil pass0 (pa_cons (pv 0) (pa_cons (pe_callB call_lenAll (by rfl) t_len bt_len (pa_cons (pv 3) pa_nil)) pa_nil))) (fun _ _ => rfl)))
      (pss_cons (ps_setLc (i := 5) (own := [("k", 6)]) (g := (gName 6)) rfl sc__law_deal.nd rfl rfl (sw_true rfl rfl rfl (by kernel_rfl)) (pi_seq (pe_call G__law_members (hr.mono (by decide)) (by rfl) g__law_members kp__law_members b__law_members .nil pass0 (pa_cons (pv 2) (pa_cons (pe_ix ix_seq (pv 1) pe_int (fun _ _ => rfl)) pa_nil)))) (blkOk_by (own := [("k", 6)]) (by kernel_rfl)) (fun _ _ _ _ _ => (pg_name (i := 6) sc__law_deal.nd rfl (Or.inl rfl))) (fun _ _ _ _ _ => (pts_one (pt_cmpR (op_neAll hr.units) (pv 6) (pv 4) (nomark _)))) (fun _ _ _ _ _ => (pv 6)))
      (pss_cons (ps_if (pt_not (pt_truth (pv 5) (fun _ => rfl))) (pss_one (ps_ret pe_non)) pss_nil)
      (pss_one (ps_ret (pe_tupF (pa_cons (pe_ix ix_seq (pv 1) pe_int (fun _ _ => rfl)) (pa_cons (pv 4) (pa_cons (pe_ix ix_seq (pv 5) (pe_call G__law_draw (hr.mono (by decide)) (by rfl) g__law_draw kp__law_draw b__law_draw .nil pass0 (pa_cons (pv 0) (pa_cons (pe_callB call_lenAll (by rfl) t_len bt_len (pa_cons (pv 5) pa_nil)) pa_nil))) (fun _ _ => rfl)) (pa_cons (pe_call G__law_amount (hr.mono (by decide)) (by rfl) g__law_amount kp__law_amount b__law_amount .nil pass0 (pa_cons (pv 0) pa_nil)) pa_nil)))))))))))),
    (simS_seq (simS_asg (sim_call0 rfl (sim_cons (simX_e sim_var) (sim_cons (simX_e (sim_op rop_ix (simX_e sim_var) (simX_e sim_c_int))) sim_nil))) simG_n)
      (simS_seq (simS_if (simT_not (simT_tru (simX_e sim_var))) (simS_ret sim_c_non) simS_next)
      (simS_seq (simS_asg (sim_op rop_ix (simX_e sim_var) (simX_e (sim_call1 rfl (sim_cons (simX_e (sim_cb rcl_len (sim_cons (simX_e sim_var) sim_nil))) sim_nil)))) simG_n)
      (simS_seq (simS_asg (simN_e (simN_lc (simI_seq (sim_call0 rfl (sim_cons (simX_e sim_var) (sim_cons (simX_e (sim_op rop_ix (simX_e sim_var) (simX_e sim_c_int))) sim_nil)))) simG_n (by decide) (simT_test (sim_op rop_ne (simX_e sim_var) (simX_e sim_var))) sim_var)) simG_n)
      (simS_seq (simS_if (simT_not (simT_tru (simX_e sim_var))) (simS_ret sim_c_non) simS_next)
      (simS_ret (sim_tup (Nat.le_of_ble_eq_true rfl) (sim_cons (simX_e (sim_op rop_ix (simX_e sim_var) (simX_e sim_c_int))) (sim_cons (simX_e sim_var) (sim_cons (simX_e (sim_op rop_ix (simX_e sim_var) (simX_e (sim_call1 rfl (sim_cons (simX_e (sim_cb rcl_len (sim_cons (simX_e sim_var) sim_nil))) sim_nil))))) (sim_cons (simX_e (sim_call1 rfl sim_nil)) sim_nil)))))))))))⟩⟩
theorem ok__law_value (X : K.In base) (G : base.Ns mainGlobals mg) (c : He.SaysD fa fn K) : Ok P w K mg base "_law_value" 43 ["model", "people", "rows", "constraint"] (sp0 K 4 m__law_value) := by
  obtain ⟨fd, F⟩ := c.def_ 44 (d := d__law_value) rfl
  have g := He.glo_ok X G (c.fact 44 (f := .glo "_law_value") rfl)
  have t_sum := He.free_ok X G (c.fact 63 (f := .free "sum") rfl)
  have t_tuple := He.free_ok X G (c.fact 70 (f := .free "tuple") rfl)
  obtain ⟨⟨f__law_members, fd__law_members, g__law_members, kp__law_members, b__law_members, G__law_members⟩⟩ := ok__law_members (w := w) (P := P) X G c
  exact ⟨_, fd, g, F.kp, (F.bindsN (ps := ["model", "people", "rows", "constraint"]) (fun _ _ _ _ _ _ us hl => match us, hl with | [_, _, _, _], _ => rfl)), fn0 F sc__law_value fun cdv A outer s H E hr => ⟨_, PSs.nox (pss_cons (ps_if (pt_cmpR (op_eqAll hr.units) (pe_ix ix_seq (pv 3) pe_int (fun _ _ => rfl)) pe_str (nomark _)) (pss_cons (ps_set (i := 4) sc__law_value.nd rfl (Or.inl rfl) pe_int)
      (pss_cons (ps_for PassesOwn.never rfl (pi_seq (pe_ix ix_seq (pv 3) pe_int (fun _ _ => rfl))) (pg_name (i := 5) sc__law_value.nd rfl (Or.inl rfl)) (pss_cons (ps_set (i := 6) sc__law_value.nd rfl (Or.inr rfl) (pe_tm PySem.F.plainAttrs_tuple PySem.F.slot_tuple_index PySem.F.type_tuple_index mt_idxT (pe_ix ix_seq (pv 0) pe_int (fun _ _ => rfl)) (pa_cons (pe_ix ix_seq (pv 5) pe_int (fun _ _ => rfl)) pa_nil)))
      (pss_one (ps_set (i := 4) sc__law_value.nd rfl (Or.inl rfl) (pe_op op_addAll (pv 4) (pe_op op_mulAll (pe_ix ix_seq (pv 5) pe_int (fun _ _ => rfl)) (pe_callB (cr_sum rfl) (by rfl) t_sum bt_sum (pa_cons (pe_lc (own := [("k", 7)]) (g := (gName 7)) rfl sc__law_value.nd (pi_seq (pe_call G__law_members (hr.mono (by decide)) (by rfl) g__law_members kp__law_members b__law_members .nil pass0 (pa_cons (pv 1) (pa_cons (pe_ix ix_seq (pv 5) pe_int (fun _ _ => rfl)) pa_nil)))) (blkOk_by (own := [("k", 7)]) (by kernel_rfl)) (fun _ _ _ _ _ => (pg_name (i := 7) sc__law_value.nd rfl (Or.inl rfl))) (fun _ _ _ _ _ => pts_nil) (fun _ _ _ _ _ => (pe_ix ix_seq (pe_ix ix_seq (pv 2) (pv 7) (fun _ _ => rfl)) (pv 6) (fun _ _ => rfl)))) pa_nil))))))))
      (pss_one (ps_ret (pv 4))))) pss_nil)
      (pss_cons (ps_set (i := 8) sc__law_value.nd rfl (Or.inl rfl) (pe_lst pa_nil))
      (pss_cons (ps_for PassesOwn.never rfl (pi_seq (pe_call G__law_members (hr.mono (by decide)) (by rfl) g__law_members kp__law_members b__law_members .nil pass0 (pa_cons (pv 1) (pa_cons (pe_ix ix_seq (pv 3) pe_int (fun _ _ => rfl)) pa_nil)))) (pg_name (i := 7) sc__law_value.nd rfl (Or.inr rfl)) (pss_one (ps_expr (pe_bm PySem.F.plainAttrs_list PySem.F.slot_list_append PySem.F.type_list_append mt_append (pv 8) (pa_cons (pe_tupF (pa_cons (pv 7) (pa_cons (pe_callB (cr_sum rfl) (by rfl) t_sum bt_sum (pa_cons (pe_lc (own := [("term", 5)]) (g := (gName 5)) rfl sc__law_value.nd (pi_seq (pe_ix ix_seq (pv 3) pe_int (fun _ _ => rfl))) (blkOk_by (own := [("term", 5)]) (by kernel_rfl)) (fun _ _ _ _ _ => (pg_name (i := 5) sc__law_value.nd rfl (Or.inl rfl))) (fun _ _ _ _ _ => pts_nil) (fun _ _ _ _ _ => (pe_op op_mulAll (pe_ix ix_seq (pv 5) pe_int (fun _ _ => rfl)) (pe_ix ix_seq (pe_ix ix_seq (pv 2) (pv 7) (fun _ _ => rfl)) (pe_tm PySem.F.plainAttrs_tuple PySem.F.slot_tuple_index PySem.F.type_tuple_index mt_idxT (pe_ix ix_seq (pv 0) pe_int (fun _ _ => rfl)) (pa_cons (pe_ix ix_seq (pv 5) pe_int (fun _ _ => rfl)) pa_nil)) (fun _ _ => rfl))))) pa_nil)) pa_nil))) pa_nil)))))
      (pss_one (ps_ret (pe_callTy call_tuple_ofF (by rfl) t_tuple bt_tuple (pa_cons (pv 8) pa_nil))))))),
    (simS_seq (simS_if (simT_test (sim_op rop_eq (simX_e (sim_op rop_ix (simX_e sim_var) (simX_e sim_c_int))) (simX_e sim_c_str))) (simS_seq (simS_asg sim_c_int simG_n)
      (simS_seq (simS_for (simI_seq (sim_op rop_ix (simX_e sim_var) (simX_e sim_c_int))) simG_n (simS_seq (simS_asg (sim_idxT (sim_op rop_ix (simX_e sim_var) (simX_e sim_c_int)) (simX_e (sim_op rop_ix (simX_e sim_var) (simX_e sim_c_int)))) simG_n)
      (simS_asg (sim_op rop_add (simX_e sim_var) (simX_e (sim_op rop_mul (simX_e (sim_op rop_ix (simX_e sim_var) (simX_e sim_c_int))) (simX_e (sim_cb rcl_sum (sim_cons (simX_e (simN_e (simN_lc (simI_seq (sim_call0 rfl (sim_cons (simX_e sim_var) (sim_cons (simX_e (sim_op rop_ix (simX_e sim_var) (simX_e sim_c_int))) sim_nil)))) simG_n (by decide) simT_yes (sim_op rop_ix (simX_e (sim_op rop_ix (simX_e sim_var) (simX_e sim_var))) (simX_e sim_var))))) sim_nil)))))) simG_n)))
      (simS_ret sim_var))) simS_next)
      (simS_seq (simS_asgO (simN_lst (Nat.le_of_ble_eq_true rfl) sim_nil))
      (simS_seq (simS_for (simI_seq (sim_call0 rfl (sim_cons (simX_e sim_var) (sim_cons (simX_e (sim_op rop_ix (simX_e sim_var) (simX_e sim_c_int))) sim_nil)))) simG_n (simS_expr (sim_mut rmut_app (sim_cons (simX_e (sim_tup (Nat.le_of_ble_eq_true rfl) (sim_cons (simX_e sim_var) (sim_cons (simX_e (sim_cb rcl_sum (sim_cons (simX_e (simN_e (simN_lc (simI_seq (sim_op rop_ix (simX_e sim_var) (simX_e sim_c_int))) simG_n (by decide) simT_yes (sim_op rop_mul (simX_e (sim_op rop_ix (simX_e sim_var) (simX_e sim_c_int))) (simX_e (sim_op rop_ix (simX_e (sim_op rop_ix (simX_e sim_var) (simX_e sim_var))) (simX_e (sim_idxT (sim_op rop_ix (simX_e sim_var) (simX_e sim_c_int)) (simX_e (sim_op rop_ix (simX_e sim_var) (simX_e sim_c_int))))))))))) sim_nil))) sim_nil)))) sim_nil))))
      (simS_ret (sim_cb rcl_tup (sim_cons simX_s sim_nil))))))⟩⟩
theorem ok__law_units (X : K.In base) (G : base.Ns mainGlobals mg) (c : He.SaysD fa fn K) : Ok P w K mg base "_law_units" 43 ["model", "profile"] (sp0 K 2 m__law_units) := by
  obtain ⟨fd, F⟩ := c.def_ 45 (d := d__law_units) rfl
  have g := He.glo_ok X G (c.fact 45 (f := .glo "_law_units") rfl)
  have t_len := He.free_ok X G (c.fact 67 (f := .free "len") rfl)
  obtain ⟨⟨f__law_sets, fd__law_sets, g__law_sets, kp__law_sets, b__law_sets, G__law_sets⟩⟩ := ok__law_sets (w := w) (P := P) X G c
  obtain ⟨⟨f__law_members, fd__law_members, g__law_members, kp__law_members, b__law_members, G__law_members⟩⟩ := ok__law_members (w := w) (P := P) X G c
  exact ⟨_, fd, g, F.kp, (F.bindsN (ps := ["model", "profile"]) (fun _ _ _ _ _ _ us hl => match us, hl with | [_, _], _ => rfl)), fn0 F sc__law_units fun cdv A outer s H E hr => ⟨_, PSs.nox (pss_cons (ps_set (i := 2) sc__law_units.nd rfl (Or.inl rfl) (pe_call G__law_sets (hr.mono (by decide)) (by rfl) g__law_sets kp__law_sets b__law_sets .nil pass0 (pa_cons (pe_ix ix_seq (pv 0) pe_int (fun _ _ => rfl)) pa_nil)))
      (pss_cons (ps_set (i := 3) sc__law_units.nd rfl (Or.inl rfl) (pe_callB call_lenAll (by rfl) t_len bt_len (pa_cons (pv 2) pa_nil)))
      (pss_cons (ps_if (pt_cmpR op_notN (pv 1) pe_non (nomark _)) (pss_one (ps_set (i := 2) sc__law_units.nd rfl (Or.inl rfl) (pe_op op_addAll (pv 2) (pe_lst (pa_cons (pe_ix ix_seq (pv 2) (pv 1) (fun _ _ => rfl)) pa_nil))))) pss_nil)
      (pss_cons (ps_set (i := 4) sc__law_units.nd rfl (Or.inl rfl) (pe_lst pa_nil))
      (pss_cons (ps_for PassesOwn.never rfl (pi_seq (pe_ix ix_seq (pv 0) pe_int (fun _ _ => rfl))) (pg_name (i := 5) sc__law_units.nd rfl (Or.inl rfl)) (pss_cons (ps_set (i := 6) sc__law_units.nd rfl (Or.inl rfl) (pe_call G__law_members (hr.mono (by decide)) (by rfl) g__law_members kp__law_members b__law_members .nil pass0 (pa_cons (pv 2) (pa_cons (pe_ix ix_seq (pv 5) pe_int (fun _ _ => rfl)) pa_nil))))
      (pss_one (ps_for PassesOwn.never rfl (pi_seq (pe_call G__law_members (hr.mono (by decide)) (by rfl) g__law_members kp__law_members b__law_members .nil pass0 (pa_cons (pv 2) (pa_cons (pe_ix ix_seq (pv 5) pe_int (fun _ _ => rfl)) pa_nil)))) (pg_name (i := 7) sc__law_units.nd rfl (Or.inl rfl)) (pss_one (ps_for PassesOwn.never rfl (pi_seq (pv 6)) (pg_name (i := 8) sc__law_units.nd rfl (Or.inl rfl)) (pss_one (ps_if (PW.pt (pw_or (pt_cmpR op_lt (pv 7) (pv 3) (nomark _)) (pw_or1 (pt_cmpR op_lt (pv 8) (pv 3) (nomark _))))) (pss_one (ps_expr (pe_bm PySem.F.plainAttrs_list PySem.F.slot_list_append PySem.F.type_list_append mt_append (pv 4) (pa_cons (pe_tupF (pa_cons (pe_ix ix_seq (pv 5) pe_int (fun _ _ => rfl)) (pa_cons (pv 7) (pa_cons (pv 8) pa_nil)))) pa_nil)))) pss_nil))))))))
      (pss_one (ps_ret (pv 4)))))))),
    (simS_seq (simS_asg (sim_call0 rfl (sim_cons (simX_e (sim_op rop_ix (simX_e sim_var) (simX_e sim_c_int))) sim_nil)) simG_n)
      (simS_seq (simS_asg (sim_cb rcl_len (sim_cons (simX_e sim_var) sim_nil)) simG_n)
      (simS_seq (simS_if (simT_test (sim_op rop_notN (simX_e sim_var) (simX_e sim_c_non))) (simS_asg (sim_op rop_add (simX_e sim_var) (simX_e (simN_e (simN_lst (Nat.le_of_ble_eq_true rfl) (sim_cons (simX_e (sim_op rop_ix (simX_e sim_var) (simX_e sim_var))) sim_nil))))) simG_n) simS_next)
      (simS_seq (simS_asgO (simN_lst (Nat.le_of_ble_eq_true rfl) sim_nil))
      (simS_seq (simS_for (simI_seq (sim_op rop_ix (simX_e sim_var) (simX_e sim_c_int))) simG_n (simS_seq (simS_asg (sim_call0 rfl (sim_cons (simX_e sim_var) (sim_cons (simX_e (sim_op rop_ix (simX_e sim_var) (simX_e sim_c_int))) sim_nil))) simG_n)
      (simS_for (simI_seq (sim_call0 rfl (sim_cons (simX_e sim_var) (sim_cons (simX_e (sim_op rop_ix (simX_e sim_var) (simX_e sim_c_int))) sim_nil)))) simG_n (simS_for (simI_seq sim_var) simG_n (simS_if (simT_or (simT_test (sim_op rop_lt (simX_e sim_var) (simX_e sim_var))) (simT_test (sim_op rop_lt (simX_e sim_var) (simX_e sim_var)))) (simS_expr (sim_mut rmut_app (sim_cons (simX_e (sim_tup (Nat.le_of_ble_eq_true rfl) (sim_cons (simX_e (sim_op rop_ix (simX_e sim_var) (simX_e sim_c_int))) (sim_cons (simX_e sim_var) (sim_cons (simX_e sim_var) sim_nil))))) sim_nil))) simS_next)))))
      (simS_frz (i := 4) (simS_ret sim_var)))))))⟩⟩
theorem ok_value_by (X : K.In base) (G : base.Ns mainGlobals mg) (c : He.SaysD fa fn K) : Ok P w K mg base "value_by" 44 ["model", "participants", "rows", "constraint"] (sp0 K 4 m_value_by) := by
  obtain ⟨fd, F⟩ := c.def_ 46 (d := d_value_by) rfl
  have g := He.glo_ok X G (c.fact 46 (f := .glo "value_by") rfl)
  have t_tuple := He.free_ok X G (c.fact 70 (f := .free "tuple") rfl)
  obtain ⟨⟨f_sum_value, fd_sum_value, g_sum_value, kp_sum_value, b_sum_value, G_sum_value⟩⟩ := ok_sum_value (w := w) (P := P) X G c
  obtain ⟨⟨f_members, fd_members, g_members, kp_members, b_members, G_members⟩⟩ := ok_members (w := w) (P := P) X G c
  obtain ⟨⟨f_member_value, fd_member_value, g_member_value, kp_member_value, b_member_value, G_member_value⟩⟩ := ok_member_value (w := w) (P := P) X G c
  exact ⟨_, fd, g, F.kp, (F.bindsN (ps := ["model", "participants", "rows", "constraint"]) (fun _ _ _ _ _ _ us hl => match us, hl with | [_, _, _, _], _ => rfl)), fn0 F sc_value_by fun cdv A outer s H E hr => ⟨_, PSs.nox (pss_cons (ps_if (pt_cmpR (op_eqAll hr.units) (pe_ix ix_seq (pv 3) pe_int (fun _ _ => rfl)) pe_str (nomark _)) (pss_one (ps_ret (pe_call G_sum_value (hr.mono (by decide)) (by rfl) g_sum_value kp_sum_value b_sum_value .nil pass0 (pa_cons (pv 0) (pa_cons (pv 1) (pa_cons (pv 2) (pa_cons (pe_ix ix_seq (pv 3) pe_int (fun _ _ => rfl)) pa_nil))))))) pss_nil)
      (pss_cons (ps_set (i := 4) sc_value_by.nd rfl (Or.inl rfl) (pe_lst pa_nil))
      (pss_cons (ps_for PassesOwn.never rfl (pi_seq (pe_call G_members (hr.mono (by decide)) (by rfl) g_members kp_members b_members .nil pass0 (pa_cons (pv 0) (pa_cons (pv 1) (pa_cons (pe_ix ix_seq (pv 3) pe_int (fun _ _ => rfl)) pa_nil))))) (pg_name (i := 5) sc_value_by.nd rfl (Or.inl rfl)) (pss_one (ps_expr (pe_bm PySem.F.plainAttrs_list PySem.F.slot_list_append PySem.F.type_list_append mt_append (pv 4) (pa_cons (pe_tupF (pa_cons (pv 5) (pa_cons (pe_call G_member_value (hr.mono (by decide)) (by rfl) g_member_value kp_member_value b_member_value .nil pass0 (pa_cons (pv 0) (pa_cons (pe_ix ix_seq (pv 2) (pv 5) (fun _ _ => rfl)) (pa_cons (pe_ix ix_seq (pv 3) pe_int (fun _ _ => rfl)) pa_nil)))) pa_nil))) pa_nil)))))
      (pss_one (ps_ret (pe_callTy call_tuple_ofF (by rfl) t_tuple bt_tuple (pa_cons (pv 4) pa_nil))))))),
    (simS_seq (simS_if (simT_test (sim_op rop_eq (simX_e (sim_op rop_ix (simX_e sim_var) (simX_e sim_c_int))) (simX_e sim_c_str))) (simS_ret (sim_call0 rfl (sim_cons (simX_e sim_var) (sim_cons (simX_e sim_var) (sim_cons (simX_e sim_var) (sim_cons (simX_e (sim_op rop_ix (simX_e sim_var) (simX_e sim_c_int))) sim_nil)))))) simS_next)
      (simS_seq (simS_asgO (simN_lst (Nat.le_of_ble_eq_true rfl) sim_nil))
      (simS_seq (simS_for (simI_seq (sim_call0 rfl (sim_cons (simX_e sim_var) (sim_cons (simX_e sim_var) (sim_cons (simX_e (sim_op rop_ix (simX_e sim_var) (simX_e sim_c_int))) sim_nil))))) simG_n (simS_expr (sim_mut rmut_app (sim_cons (simX_e (sim_tup (Nat.le_of_ble_eq_true rfl) (sim_cons (simX_e sim_var) (sim_cons (simX_e (sim_call0 rfl (sim_cons (simX_e sim_var) (sim_cons (simX_e (sim_op rop_ix (simX_e sim_var) (simX_e sim_var))) (sim_cons (simX_e (sim_op rop_ix (simX_e sim_var) (simX_e sim_c_int))) sim_nil))))) sim_nil)))) sim_nil))))
      (simS_ret (sim_cb rcl_tup (sim_cons simX_s sim_nil))))))⟩⟩
theorem ok_unit_transactions (X : K.In base) (G : base.Ns mainGlobals mg) (c : He.SaysD fa fn K) : Ok P w K mg base "unit_transactions" 43 ["model", "profile"] (sp0 K 2 m_unit_transactions) := by
  obtain ⟨fd, F⟩ := c.def_ 47 (d := d_unit_transactions) rfl
  have g := He.glo_ok X G (c.fact 47 (f := .glo "unit_transactions") rfl)
  have t_tuple := He.free_ok X G (c.fact 70 (f := .free "tuple") rfl)
  obtain ⟨⟨f_profile_count, fd_profile_count, g_profile_count, kp_profile_count, b_profile_count, G_profile_count⟩⟩ := ok_profile_count (w := w) (P := P) X G c
  obtain ⟨⟨f_groups_in, fd_groups_in, g_groups_in, kp_groups_in, b_groups_in, G_groups_in⟩⟩ := ok_groups_in (w := w) (P := P) X G c
  exact ⟨_, fd, g, F.kp, (F.bindsN (ps := ["model", "profile"]) (fun _ _ _ _ _ _ us hl => match us, hl with | [_, _], _ => rfl)), fn0 F sc_unit_transactions fun cdv A outer s H E hr => ⟨_, PSs.nox (pss_cons (ps_set (i := 2) sc_unit_transactions.nd rfl (Or.inl rfl) (pe_call G_profile_count (hr.mono (by decide)) (by rfl) g_profile_count kp_profile_count b_profile_count .nil pass0 (pa_cons (pv 0) pa_nil)))
      (pss_cons (ps_set (i := 3) sc_unit_transactions.nd rfl (Or.inl rfl) (pe_lst pa_nil))
      (pss_cons (ps_for PassesOwn.never rfl (pi_seq (pe_ix ix_seq (pv 0) pe_int (fun _ _ => rfl))) (pg_name (i := 4) sc_unit_transactions.nd rfl (Or.inl rfl)) (pss_cons (ps_set (i := 5) sc_unit_transactions.nd rfl (Or.inl rfl) (pe_call G_groups_in (hr.mono (by decide)) (by rfl) g_groups_in kp_groups_in b_groups_in .nil pass0 (pa_cons (pv 0) (pa_cons (pv 1) (pa_cons (pe_ix ix_seq (pv 4) pe_int (fun _ _ => rfl)) pa_nil)))))
      (pss_one (ps_for PassesOwn.never rfl (pi_seq (pe_call G_groups_in (hr.mono (by decide)) (by rfl) g_groups_in kp_groups_in b_groups_in .nil pass0 (pa_cons (pv 0) (pa_cons (pv 1) (pa_cons (pe_ix ix_seq (pv 4) pe_int (fun _ _ => rfl)) pa_nil))))) (pg_name (i := 6) sc_unit_transactions.nd rfl (Or.inl rfl)) (pss_one (ps_for PassesOwn.never rfl (pi_seq (pv 5)) (pg_name (i := 7) sc_unit_transactions.nd rfl (Or.inl rfl)) (pss_one (ps_if (PW.pt (pw_or (pt_cmpR op_lt (pv 6) (pv 2) (nomark _)) (pw_or1 (pt_cmpR op_lt (pv 7) (pv 2) (nomark _))))) (pss_one (ps_expr (pe_bm PySem.F.plainAttrs_list PySem.F.slot_list_append PySem.F.type_list_append mt_append (pv 3) (pa_cons (pe_tupF (pa_cons (pe_ix ix_seq (pv 4) pe_int (fun _ _ => rfl)) (pa_cons (pv 6) (pa_cons (pv 7) pa_nil)))) pa_nil)))) pss_nil))))))))
      (pss_one (ps_ret (pe_callTy call_tuple_ofF (by rfl) t_tuple bt_tuple (pa_cons (pv 3) pa_nil))))))),
    (simS_seq (simS_asg (sim_call0 rfl (sim_cons (simX_e sim_var) sim_nil)) simG_n)
      (simS_seq (simS_asgO (simN_lst (Nat.le_of_ble_eq_true rfl) sim_nil))
      (simS_seq (simS_for (simI_seq (sim_op rop_ix (simX_e sim_var) (simX_e sim_c_int))) simG_n (simS_seq (simS_asg (sim_call0 rfl (sim_cons (simX_e sim_var) (sim_cons (simX_e sim_var) (sim_cons (simX_e (sim_op rop_ix (simX_e sim_var) (simX_e sim_c_int))) sim_nil)))) simG_n)
      (simS_for (simI_seq (sim_call0 rfl (sim_cons (simX_e sim_var) (sim_cons (simX_e sim_var) (sim_cons (simX_e (sim_op rop_ix (simX_e sim_var) (simX_e sim_c_int))) sim_nil))))) simG_n (simS_for (simI_seq sim_var) simG_n (simS_if (simT_or (simT_test (sim_op rop_lt (simX_e sim_var) (simX_e sim_var))) (simT_test (sim_op rop_lt (simX_e sim_var) (simX_e sim_var)))) (simS_expr (sim_mut rmut_app (sim_cons (simX_e (sim_tup (Nat.le_of_ble_eq_true rfl) (sim_cons (simX_e (sim_op rop_ix (simX_e sim_var) (simX_e sim_c_int))) (sim_cons (simX_e sim_var) (sim_cons (simX_e sim_var) sim_nil))))) sim_nil))) simS_next)))))
      (simS_ret (sim_cb rcl_tup (sim_cons simX_s sim_nil))))))⟩⟩
theorem ok__law_some_sector (X : K.In base) (G : base.Ns mainGlobals mg) (c : He.SaysD fa fn K) : Ok P w K mg base "_law_some_sector" 44 ["tape", "sectors", "size", "level"] (sp1 K 3 m__law_some_sector) := by
  obtain ⟨fd, F⟩ := c.def_ 48 (d := d__law_some_sector) rfl
  have g := He.glo_ok X G (c.fact 48 (f := .glo "_law_some_sector") rfl)
  have t_min := He.free_ok X G (c.fact 74 (f := .free "min") rfl)
  have t_int := He.free_ok X G (c.fact 64 (f := .free "int") rfl)
  obtain ⟨⟨f__law_draw, fd__law_draw, g__law_draw, kp__law_draw, b__law_draw, G__law_draw⟩⟩ := ok__law_draw (w := w) (P := P) X G c
  obtain ⟨⟨f__law_sector, fd__law_sector, g__law_sector, kp__law_sector, b__law_sector, G__law_sector⟩⟩ := ok__law_sector FUEL__law_sector (w := w) (P := P) X G c
  obtain ⟨⟨f__law_deep, fd__law_deep, g__law_deep, kp__law_deep, b__law_deep, G__law_deep⟩⟩ := ok__law_deep (w := w) (P := P) X G c
  exact ⟨_, fd, g, F.kp, (F.bindsN (ps := ["tape", "sectors", "size", "level"]) (fun _ _ _ _ _ _ us hl => match us, hl with | [_, _, _, _], _ => rfl)), fn1 F sc__law_some_sector fun cdv A outer s H E hr => ⟨_, PSs.nox (pss_cons (ps_set (i := 4) sc__law_some_sector.nd rfl (Or.inl rfl) (pe_call G__law_draw (hr.mono (by decide)) (by rfl) g__law_draw kp__law_draw b__law_draw .nil pass0 (pa_cons (pv 0) (pa_cons pe_int pa_nil))))
      (pss_cons (ps_if (pt_cmpR op_lt (pv 2) pe_int (nomark _)) (pss_one (ps_ret (pe_call G__law_sector (hr.mono (by decide)) (by rfl) g__law_sector kp__law_sector b__law_sector .nil pass0 (pa_cons (pv 0) (pa_cons (pv 1) (pa_cons (pe_callB (call_min2 rfl) (by rfl) t_min bt_min (pa_cons (pv 2) (pa_cons (pe_op op_addAll pe_int (pv 4)) pa_nil))) (pa_cons pe_int (pa_cons (pv 3) pa_nil)))))))) pss_nil)
      (pss_cons (ps_if (pt_cmpR (op_eqAll hr.units) (pv 4) pe_int (nomark _)) (pss_one (ps_ret (pe_call G__law_deep (hr.mono (by decide)) (by rfl) g__law_deep kp__law_deep b__law_deep .nil pass0 (pa_cons (pv 0) (pa_cons (pv 1) (pa_cons (pe_call G__law_draw (hr.mono (by decide)) (by rfl) g__law_draw kp__law_draw b__law_draw .nil pass0 (pa_cons (pv 0) (pa_cons (pe_op op_sub pe_int (pe_callTy call_int1 (by rfl) t_int bt_int (pa_cons (pe_cmpR op_gt (pv 3) pe_int (nomark _)) pa_nil))) pa_nil))) pa_nil)))))) pss_nil)
      (pss_cons (ps_if (pt_cmpR op_gt (pv 4) pe_int (nomark _)) (pss_one (ps_ret (pe_call G__law_sector (hr.mono (by decide)) (by rfl) g__law_sector kp__law_sector b__law_sector .nil pass0 (pa_cons (pv 0) (pa_cons (pv 1) (pa_cons (pv 2) (pa_cons pe_int (pa_cons (pv 3) pa_nil)))))))) pss_nil)
      (pss_one (ps_ret (pe_call G__law_sector (hr.mono (by decide)) (by rfl) g__law_sector kp__law_sector b__law_sector .nil pass0 (pa_cons (pv 0) (pa_cons (pv 1) (pa_cons (pe_op op_addAll pe_int (pv 4)) (pa_cons pe_int (pa_cons (pv 3) pa_nil)))))))))))),
    (simS_seq (simS_asg (sim_call1 rfl (sim_cons (simX_e sim_c_int) sim_nil)) simG_n)
      (simS_seq (simS_if (simT_test (sim_op rop_lt (simX_e sim_var) (simX_e sim_c_int))) (simS_ret (sim_call1 rfl (sim_cons (simX_e sim_var) (sim_cons (simX_e (sim_cb rcl_min2 (sim_cons (simX_e sim_var) (sim_cons (simX_e (sim_op rop_add (simX_e sim_c_int) (simX_e sim_var))) sim_nil)))) (sim_cons (simX_e sim_c_int) (sim_cons (simX_e sim_var) sim_nil)))))) simS_next)
      (simS_seq (simS_if (simT_test (sim_op rop_eq (simX_e sim_var) (simX_e sim_c_int))) (simS_ret (sim_call1 rfl (sim_cons (simX_e sim_var) (sim_cons (simX_e (sim_call1 rfl (sim_cons (simX_e (sim_op rop_sub (simX_e sim_c_int) (simX_e (sim_cb rcl_int (sim_cons (simX_e (sim_op rop_gt (simX_e sim_var) (simX_e sim_c_int))) sim_nil))))) sim_nil))) sim_nil)))) simS_next)
      (simS_seq (simS_if (simT_test (sim_op rop_gt (simX_e sim_var) (simX_e sim_c_int))) (simS_ret (sim_call1 rfl (sim_cons (simX_e sim_var) (sim_cons (simX_e sim_var) (sim_cons (simX_e sim_c_int) (sim_cons (simX_e sim_var) sim_nil)))))) simS_next)
      (simS_ret (sim_call1 rfl (sim_cons (simX_e sim_var) (sim_cons (simX_e (sim_op rop_add (simX_e sim_c_int) (simX_e sim_var))) (sim_cons (simX_e sim_c_int) (sim_cons (simX_e sim_var) sim_nil))))))))))⟩⟩
theorem ok__law_lists (X : K.In base) (G : base.Ns mainGlobals mg) (c : He.SaysD fa fn K) : Ok P w K mg base "_law_lists" 4 ["tape", "most"] (sp1 K 1 m__law_lists) := by
  obtain ⟨fd, F⟩ := c.def_ 49 (d := d__law_lists) rfl
  have g := He.glo_ok X G (c.fact 49 (f := .glo "_law_lists") rfl)
  have t_tuple := He.free_ok X G (c.fact 70 (f := .free "tuple") rfl)
  obtain ⟨⟨f__law_names, fd__law_names, g__law_names, kp__law_names, b__law_names, G__law_names⟩⟩ := ok__law_names (w := w) (P := P) X G c
  obtain ⟨⟨f__law_draw, fd__law_draw, g__law_draw, kp__law_draw, b__law_draw, G__law_draw⟩⟩ := ok__law_draw (w := w) (P := P) X G c
  exact ⟨_, fd, g, F.kp, (F.bindsN (ps := ["tape", "most"]) (fun _ _ _ _ _ _ us hl => match us, hl with | [_, _], _ => rfl)), fn1 F sc__law_lists fun cdv A outer s H E hr => ⟨_, PSs.nox (pss_cons (ps_set (i := 2) sc__law_lists.nd rfl (Or.inl rfl) (pe_call G__law_names (hr.mono (by decide)) (by rfl) g__law_names kp__law_names b__law_names .nil pass0 (pa_cons (pv 0) (pa_cons pe_int pa_nil))))
      (pss_cons (ps_set (i := 3) sc__law_lists.nd rfl (Or.inl rfl) (pe_call G__law_draw (hr.mono (by decide)) (by rfl) g__law_draw kp__law_draw b__law_draw .nil pass0 (pa_cons (pv 0) (pa_cons (pe_op op_addAll (pe_ix ix_seq (pv 1) pe_int (fun _ _ => rfl)) pe_int) pa_nil))))
      (pss_cons (ps_set (i := 4) sc__law_lists.nd rfl (Or.inl rfl) (pe_ix ix_seq (pe_lst (pa_cons pe_int (pa_cons (pv 3) (pa_cons pe_int pa_nil)))) (pe_call G__law_draw (hr.mono (by decide)) (by rfl) g__law_draw kp__law_draw b__law_draw .nil pass0 (pa_cons (pv 0) (pa_cons pe_int pa_nil))) (fun _ _ => rfl)))
      (pss_cons (ps_set (i := 5) sc__law_lists.nd rfl (Or.inl rfl) (pe_slice sl_all (pv 2) (po_some (pv 4)) (po_some (pe_op op_addAll (pe_op op_addAll (pv 4) pe_int) (pe_call G__law_draw (hr.mono (by decide)) (by rfl) g__law_draw kp__law_draw b__law_draw .nil pass0 (pa_cons (pv 0) (pa_cons (pe_ix ix_seq (pv 1) pe_int (fun _ _ => rfl)) pa_nil)))))))
      (pss_one (ps_ret (pe_tupF (pa_cons (pe_callTy call_tuple_ofF (by rfl) t_tuple bt_tuple (pa_cons (pe_slice sl_all (pv 2) po_none (po_some (pv 3))) pa_nil)) (pa_cons (pe_callTy call_tuple_ofF (by rfl) t_tuple bt_tuple (pa_cons (pv 5) pa_nil)) (pa_cons (pe_slice sl_all (pv 2) (po_some (pe_ix ix_seq (pe_lst (pa_cons pe_int (pa_cons pe_int pa_nil))) (pe_call G__law_draw (hr.mono (by decide)) (by rfl) g__law_draw kp__law_draw b__law_draw .nil pass0 (pa_cons (pv 0) (pa_cons pe_int pa_nil))) (fun _ _ => rfl))) po_none) pa_nil)))))))))),
    (simS_seq (simS_asg (sim_call1 rfl (sim_cons (simX_e sim_c_int) sim_nil)) simG_n)
      (simS_seq (simS_asg (sim_call1 rfl (sim_cons (simX_e (sim_op rop_add (simX_e (sim_op rop_ix (simX_e sim_var) (simX_e sim_c_int))) (simX_e sim_c_int))) sim_nil)) simG_n)
      (simS_seq (simS_asg (sim_op rop_ix (simX_e (simN_e (simN_lst (Nat.le_of_ble_eq_true rfl) (sim_cons (simX_e sim_c_int) (sim_cons (simX_e sim_var) (sim_cons (simX_e sim_c_int) sim_nil)))))) (simX_e (sim_call1 rfl (sim_cons (simX_e sim_c_int) sim_nil)))) simG_n)
      (simS_seq (simS_asg (sim_sl (simX_e sim_var) (simO_some sim_var) (simO_some (sim_op rop_add (simX_e (sim_op rop_add (simX_e sim_var) (simX_e sim_c_int))) (simX_e (sim_call1 rfl (sim_cons (simX_e (sim_op rop_ix (simX_e sim_var) (simX_e sim_c_int))) sim_nil)))))) simG_n)
      (simS_ret (sim_tup (Nat.le_of_ble_eq_true rfl) (sim_cons (simX_e (sim_cb rcl_tup (sim_cons (simX_e (sim_sl (simX_e sim_var) simO_none (simO_some sim_var))) sim_nil))) (sim_cons (simX_e (sim_cb rcl_tup (sim_cons (simX_e sim_var) sim_nil))) (sim_cons (simX_e (sim_sl (simX_e sim_var) (simO_some (sim_op rop_ix (simX_e (simN_e (simN_lst (Nat.le_of_ble_eq_true rfl) (sim_cons (simX_e sim_c_int) (sim_cons (simX_e sim_c_int) sim_nil))))) (simX_e (sim_call1 rfl (sim_cons (simX_e sim_c_int) sim_nil))))) simO_none)) sim_nil)))))))))⟩⟩
theorem ok__law_deals (X : K.In base) (G : base.Ns mainGlobals mg) (c : He.SaysD fa fn K) : Ok P w K mg base "_law_deals" 44 ["tape", "model", "people", "many"] (sp1 K 3 m__law_deals) := by
  obtain ⟨fd, F⟩ := c.def_ 50 (d := d__law_deals) rfl
  have g := He.glo_ok X G (c.fact 50 (f := .glo "_law_deals") rfl)
  have t_range := He.free_ok X G (c.fact 71 (f := .free "range") rfl)
  have t_len := He.free_ok X G (c.fact 67 (f := .free "len") rfl)
  obtain ⟨⟨f__law_deal, fd__law_deal, g__law_deal, kp__law_deal, b__law_deal, G__law_deal⟩⟩ := ok__law_deal (w := w) (P := P) X G c
  obtain ⟨⟨f__law_draw, fd__law_draw, g__law_draw, kp__law_draw, b__law_draw, G__law_draw⟩⟩ := ok__law_draw (w := w) (P := P) X G c
  exact ⟨_, fd, g, F.kp, (F.bindsN (ps := ["tape", "model", "people", "many"]) (fun _ _ _ _ _ _ us hl => match us, hl with | [_, _, _, _], _ => rfl)), fn1 F sc__law_deals fun cdv A outer s H E hr => ⟨_, PSs.nox (pss_cons (ps_set (i := 4) sc__law_deals.nd rfl (Or.inl rfl) (pe_lst pa_nil))
      (pss_cons (ps_for PassesOwn.never rfl (pi_range1 (by rfl) t_range (pa_cons (pv 3) pa_nil)) (pg_name (i := 5) sc__law_deals.nd rfl (Or.inl rfl)) (pss_one (ps_if (pt_cmpR (op_neE hr.units) (pe_ix ix_seq (pv 1) pe_int (fun _ _ => rfl)) (pe_tupF pa_nil) (nomark _)) (pss_cons (ps_set (i := 6) sc__law_deals.nd rfl (Or.inl rfl) (pe_call G__law_deal (hr.mono (by decide)) (by rfl) g__law_deal kp__law_deal b__law_deal .nil pass0 (pa_cons (pv 0) (pa_cons (pe_ix ix_seq (pe_ix ix_seq (pv 1) pe_int (fun _ _ => rfl)) (pe_call G__law_draw (hr.mono (by decide)) (by rfl) g__law_draw kp__law_draw b__law_draw .nil pass0 (pa_cons (pv 0) (pa_cons (pe_callB call_lenAll (by rfl) t_len bt_len (pa_cons (pe_ix ix_seq (pv 1) pe_int (fun _ _ => rfl)) pa_nil)) pa_nil))) (fun _ _ => rfl)) (pa_cons (pv 2) pa_nil)))))
      (pss_one (ps_if (pt_cmpR op_notN (pv 6) pe_non (nomark _)) (pss_one (ps_expr (pe_bm PySem.F.plainAttrs_list PySem.F.slot_list_append PySem.F.type_list_append mt_append (pv 4) (pa_cons (pv 6) pa_nil)))) pss_nil))) pss_nil)))
      (pss_one (ps_ret (pv 4))))),
    (simS_seq (simS_asgO (simN_lst (Nat.le_of_ble_eq_true rfl) sim_nil))
      (simS_seq (simS_for (simI_rng1 (sim_cons (simX_e sim_var) sim_nil)) simG_n (simS_if (simT_test (sim_op rop_eqE (simX_e (sim_op rop_ix (simX_e sim_var) (simX_e sim_c_int))) (simX_e (sim_tup (Nat.le_of_ble_eq_true rfl) sim_nil)))) (simS_seq (simS_asg (sim_call1 rfl (sim_cons (simX_e (sim_op rop_ix (simX_e (sim_op rop_ix (simX_e sim_var) (simX_e sim_c_int))) (simX_e (sim_call1 rfl (sim_cons (simX_e (sim_cb rcl_len (sim_cons (simX_e (sim_op rop_ix (simX_e sim_var) (simX_e sim_c_int))) sim_nil))) sim_nil))))) (sim_cons (simX_e sim_var) sim_nil))) simG_n)
      (simS_if (simT_test (sim_op rop_notN (simX_e sim_var) (simX_e sim_c_non))) (simS_expr (sim_mut rmut_app (sim_cons (simX_e sim_var) sim_nil))) simS_next)) simS_next))
      (simS_frz (i := 4) (simS_ret sim_var))))⟩⟩
theorem ok__law_flows (X : K.In base) (G : base.Ns mainGlobals mg) (c : He.SaysD fa fn K) : Ok P w K mg base "_law_flows" 44 ["model", "people", "deals", "lone"] (sp0 K 4 m__law_flows) := by
  obtain ⟨fd, F⟩ := c.def_ 51 (d := d__law_flows) rfl
  have g := He.glo_ok X G (c.fact 51 (f := .glo "_law_flows") rfl)
  have t_len := He.free_ok X G (c.fact 67 (f := .free "len") rfl)
  have t_tuple := He.free_ok X G (c.fact 70 (f := .free "tuple") rfl)
  obtain ⟨⟨f__law_sets, fd__law_sets, g__law_sets, kp__law_sets, b__law_sets, G__law_sets⟩⟩ := ok__law_sets (w := w) (P := P) X G c
  obtain ⟨⟨f__law_ordered, fd__law_ordered, g__law_ordered, kp__law_ordered, b__law_ordered, G__law_ordered⟩⟩ := ok__law_ordered (w := w) (P := P) X G c
  obtain ⟨⟨f__law_units, fd__law_units, g__law_units, kp__law_units, b__law_units, G__law_units⟩⟩ := ok__law_units (w := w) (P := P) X G c
  exact ⟨_, fd, g, F.kp, (F.bindsN (ps := ["model", "people", "deals", "lone"]) (fun _ _ _ _ _ _ us hl => match us, hl with | [_, _, _, _], _ => rfl)), fn0 F sc__law_flows fun cdv A outer s H E hr => ⟨_, PSs.nox (pss_cons (ps_set (i := 4) sc__law_flows.nd rfl (Or.inr rfl) (pe_call G__law_sets (hr.mono (by decide)) (by rfl) g__law_sets kp__law_sets b__law_sets .nil pass0 (pa_cons (pe_ix ix_seq (pv 0) pe_int (fun _ _ => rfl)) pa_nil)))
      (pss_cons (ps_setLc (i := 5) (own := [("person", 6)]) (g := (gName 6)) rfl sc__law_flows.nd rfl rfl (sw_true rfl rfl rfl (by kernel_rfl)) (pi_seq (pv 1)) (blkOk_by (own := [("person", 6)]) (by kernel_rfl)) (fun _ _ _ _ _ => (pg_name (i := 6) sc__law_flows.nd rfl (Or.inl rfl))) (fun _ _ _ _ _ => pts_nil) (fun _ _ _ _ _ => (pe_bm PySem.F.plainAttrs_list PySem.F.slot_list_index PySem.F.type_list_index (mt_indexD (u65 hr)) (pv 4) (pa_cons (pe_call G__law_ordered (hr.mono (by decide)) (by rfl) g__law_ordered kp__law_ordered b__law_ordered .nil pass0 (pa_cons (pv 0) (pa_cons (pv 6) pa_nil))) pa_nil))))
      (pss_cons (ps_set (i := 7) sc__law_flows.nd rfl (Or.inl rfl) pe_non)
      (pss_cons (ps_if (pt_cmpR op_notN (pv 3) pe_non (nomark _)) (pss_cons (ps_set (i := 7) sc__law_flows.nd rfl (Or.inl rfl) (pe_ix ix_seq (pv 5) (pv 3) (fun _ _ => rfl)))
      (pss_one (ps_asg (pe_callB call_lenAll (by rfl) t_len bt_len (pa_cons (pv 4) pa_nil)) (pg_sub (pv 5) (pv 3) set_list)))) pss_nil)
      (pss_cons (ps_set (i := 8) sc__law_flows.nd rfl (Or.inl rfl) (pe_call G__law_units (hr.mono (by decide)) (by rfl) g__law_units kp__law_units b__law_units .nil pass0 (pa_cons (pv 0) (pa_cons (pv 7) pa_nil))))
      (pss_cons (ps_set (i := 9) sc__law_flows.nd rfl (Or.inl rfl) (pe_op op_mulAll (pe_lst (pa_cons pe_int pa_nil)) (pe_callB call_lenAll (by rfl) t_len bt_len (pa_cons (pv 8) pa_nil))))
      (pss_cons (ps_for PassesOwn.never rfl (pi_seq (pv 2)) (pg_name (i := 10) sc__law_flows.nd rfl (Or.inl rfl)) (pss_cons (ps_set (i := 11) sc__law_flows.nd rfl (Or.inl rfl) (pe_bm PySem.F.plainAttrs_list PySem.F.slot_list_index PySem.F.type_list_index (mt_indexD (u65 hr)) (pv 8) (pa_cons (pe_tupF (pa_cons (pe_ix ix_seq (pv 10) pe_int (fun _ _ => rfl)) (pa_cons (pe_ix ix_seq (pv 5) (pe_ix ix_seq (pv 10) pe_int (fun _ _ => rfl)) (fun _ _ => rfl)) (pa_cons (pe_ix ix_seq (pv 5) (pe_ix ix_seq (pv 10) pe_int (fun _ _ => rfl)) (fun _ _ => rfl)) pa_nil)))) pa_nil)))
      (pss_one (ps_asg (pe_op op_addAll (pe_ix ix_seq (pv 9) (pv 11) (fun _ _ => rfl)) (pe_ix ix_seq (pv 10) pe_int (fun _ _ => rfl))) (pg_sub (pv 9) (pv 11) set_list)))))
      (pss_one (ps_ret (pe_callTy call_tuple_ofF (by rfl) t_tuple bt_tuple (pa_cons (pv 9) pa_nil))))))))))),
    (simS_seq (simS_asg (sim_call0 rfl (sim_cons (simX_e (sim_op rop_ix (simX_e sim_var) (simX_e sim_c_int))) sim_nil)) simG_n)
      (simS_seq (simS_asgO (simN_lc (simI_seq sim_var) simG_n (by decide) simT_yes (sim_idxN sim_var (simX_e (sim_call0 rfl (sim_cons (simX_e sim_var) (sim_cons (simX_e sim_var) sim_nil)))))))
      (simS_seq (simS_asg sim_c_non simG_n)
      (simS_seq (simS_if (simT_test (sim_op rop_notN (simX_e sim_var) (simX_e sim_c_non))) (simS_seq (simS_asg (sim_op rop_ix simX_s (simX_e sim_var)) simG_n)
      (simS_set sim_var (sim_cb rcl_len (sim_cons (simX_e sim_var) sim_nil)))) simS_next)
      (simS_seq (simS_asg (sim_call0 rfl (sim_cons (simX_e sim_var) (sim_cons (simX_e sim_var) sim_nil))) simG_n)
      (simS_seq (simS_asgO (simN_op rop_mulN (simX_e (simN_e (simN_lst (Nat.le_of_ble_eq_true rfl) (sim_cons (simX_e sim_c_int) sim_nil)))) (simX_e (sim_cb rcl_len (sim_cons (simX_e sim_var) sim_nil)))))
      (simS_seq (simS_for (simI_seq sim_var) simG_n (simS_seq (simS_asg (sim_idxN sim_var (simX_e (sim_tup (Nat.le_of_ble_eq_true rfl) (sim_cons (simX_e (sim_op rop_ix (simX_e sim_var) (simX_e sim_c_int))) (sim_cons (simX_e (sim_op rop_ix simX_s (simX_e (sim_op rop_ix (simX_e sim_var) (simX_e sim_c_int))))) (sim_cons (simX_e (sim_op rop_ix simX_s (simX_e (sim_op rop_ix (simX_e sim_var) (simX_e sim_c_int))))) sim_nil)))))) simG_n)
      (simS_set sim_var (sim_op rop_add (simX_e (sim_op rop_ix simX_s (simX_e sim_var))) (simX_e (sim_op rop_ix (simX_e sim_var) (simX_e sim_c_int)))))))
      (simS_ret (sim_cb rcl_tup (sim_cons simX_s sim_nil))))))))))⟩⟩
theorem ok_value (X : K.In base) (G : base.Ns mainGlobals mg) (c : He.SaysD fa fn K) : Ok P w K mg base "value" 45 ["model", "ledger", "constraint"] (sp0 K 3 m_value) := by
  obtain ⟨fd, F⟩ := c.def_ 52 (d := d_value) rfl
  have g := He.glo_ok X G (c.fact 52 (f := .glo "value") rfl)
  obtain ⟨⟨f_value_by, fd_value_by, g_value_by, kp_value_by, b_value_by, G_value_by⟩⟩ := ok_value_by (w := w) (P := P) X G c
  obtain ⟨⟨f_balances, fd_balances, g_balances, kp_balances, b_balances, G_balances⟩⟩ := ok_balances (w := w) (P := P) X G c
  exact ⟨_, fd, g, F.kp, (F.bindsN (ps := ["model", "ledger", "constraint"]) (fun _ _ _ _ _ _ us hl => match us, hl with | [_, _, _], _ => rfl)), fn0 F sc_value fun cdv A outer s H E hr => ⟨_, PSs.nox (pss_one (ps_ret (pe_call G_value_by (hr.mono (by decide)) (by rfl) g_value_by kp_value_by b_value_by .nil pass0 (pa_cons (pv 0) (pa_cons (pe_ix ix_seq (pv 1) pe_int (fun _ _ => rfl)) (pa_cons (pe_call G_balances (hr.mono (by decide)) (by rfl) g_balances kp_balances b_balances .nil pass0 (pa_cons (pv 0) (pa_cons (pv 1) pa_nil))) (pa_cons (pv 2) pa_nil))))))),
    (simS_ret (sim_call0 rfl (sim_cons (simX_e sim_var) (sim_cons (simX_e (sim_op rop_ix (simX_e sim_var) (simX_e sim_c_int))) (sim_cons (simX_e (sim_call0 rfl (sim_cons (simX_e sim_var) (sim_cons (simX_e sim_var) sim_nil)))) (sim_cons (simX_e sim_var) sim_nil))))))⟩⟩
theorem ok_contributions (X : K.In base) (G : base.Ns mainGlobals mg) (c : He.SaysD fa fn K) : Ok P w K mg base "contributions" 44 ["model", "constraint"] (sp0 K 2 m_contributions) := by
  obtain ⟨fd, F⟩ := c.def_ 53 (d := d_contributions) rfl
  have g := He.glo_ok X G (c.fact 53 (f := .glo "contributions") rfl)
  have t_tuple := He.free_ok X G (c.fact 70 (f := .free "tuple") rfl)
  have t_zip := He.free_ok X G (c.fact 62 (f := .free "zip") rfl)
  obtain ⟨⟨f_unit_transactions, fd_unit_transactions, g_unit_transactions, kp_unit_transactions, b_unit_transactions, G_unit_transactions⟩⟩ := ok_unit_transactions (w := w) (P := P) X G c
  obtain ⟨⟨f_contribution_row, fd_contribution_row, g_contribution_row, kp_contribution_row, b_contribution_row, G_contribution_row⟩⟩ := ok_contribution_row (w := w) (P := P) X G c
  obtain ⟨⟨f_weights_of, fd_weights_of, g_weights_of, kp_weights_of, b_weights_of, G_weights_of⟩⟩ := ok_weights_of (w := w) (P := P) X G c
  exact ⟨_, fd, g, F.kp, (F.bindsN (ps := ["model", "constraint"]) (fun _ _ _ _ _ _ us hl => match us, hl with | [_, _], _ => rfl)), fn0 F sc_contributions fun cdv A outer s H E hr => ⟨_, PSs.nox (pss_cons (ps_if (pt_cmpR (op_neAll hr.units) (pe_ix ix_seq (pv 1) pe_int (fun _ _ => rfl)) pe_str (nomark _)) (pss_one ps_never) pss_nil)
      (pss_cons (ps_set (i := 2) sc_contributions.nd rfl (Or.inl rfl) (pe_call G_unit_transactions (hr.mono (by decide)) (by rfl) g_unit_transactions kp_unit_transactions b_unit_transactions .nil pass0 (pa_cons (pv 0) (pa_cons pe_non pa_nil))))
      (pss_cons (ps_set (i := 3) sc_contributions.nd rfl (Or.inl rfl) (pe_call G_contribution_row (hr.mono (by decide)) (by rfl) g_contribution_row kp_contribution_row b_contribution_row .nil pass0 (pa_cons (pv 0) (pa_cons (pv 2) (pa_cons (pe_call G_weights_of (hr.mono (by decide)) (by rfl) g_weights_of kp_weights_of b_weights_of .nil pass0 (pa_cons (pv 0) (pa_cons pe_non (pa_cons (pv 1) (pa_cons pe_non pa_nil))))) (pa_cons pe_int pa_nil))))))
      (pss_one (ps_ret (pe_callTy call_tuple_ofF (by rfl) t_tuple bt_tuple (pa_cons (pe_lc (own := [("unit", 4), ("number", 5)]) (g := (gTup K 2 (gCons (gName 4) (gCons (gName 5) gNil)))) rfl sc_contributions.nd (pi_zipK (by rfl) t_zip (pa_cons (pv 2) (pa_cons (pv 3) pa_nil))) (blkOk_by (own := [("unit", 4), ("number", 5)]) (by kernel_rfl)) (fun _ _ _ _ _ => (pg_tup rfl (pgs_cons (pg_name (i := 4) sc_contributions.nd rfl (Or.inl rfl)) (pgs_cons (pg_name (i := 5) sc_contributions.nd rfl (Or.inl rfl)) pgs_nil)))) (fun _ _ _ _ _ => pts_nil) (fun _ _ _ _ _ => (pe_op op_addAll (pv 4) (pe_tupF (pa_cons (pv 5) pa_nil))))) pa_nil))))))),
    (simS_seq (simS_if (simT_test (sim_op rop_ne (simX_e (sim_op rop_ix (simX_e sim_var) (simX_e sim_c_int))) (simX_e sim_c_str))) simS_never simS_next)
      (simS_seq (simS_asg (sim_call0 rfl (sim_cons (simX_e sim_var) (sim_cons (simX_e sim_c_non) sim_nil))) simG_n)
      (simS_seq (simS_asg (sim_call0 rfl (sim_cons (simX_e sim_var) (sim_cons (simX_e sim_var) (sim_cons (simX_e (sim_call0 rfl (sim_cons (simX_e sim_var) (sim_cons (simX_e sim_c_non) (sim_cons (simX_e sim_var) (sim_cons (simX_e sim_c_non) sim_nil)))))) (sim_cons (simX_e sim_c_int) sim_nil))))) simG_n)
      (simS_ret (sim_cb rcl_tup (sim_cons (simX_e (simN_e (simN_lc (simI_zip sim_var sim_var) (simG_t (simGs_cons simG_n (simGs_cons simG_n simGs_nil))) (by decide) simT_yes (sim_op rop_add (simX_e sim_var) (simX_e (sim_tup (Nat.le_of_ble_eq_true rfl) (sim_cons (simX_e sim_var) sim_nil))))))) sim_nil))))))⟩⟩
theorem ok_flows (X : K.In base) (G : base.Ns mainGlobals mg) (c : He.SaysD fa fn K) : OkK P w K mg base "flows" 44 ["model", "ledger", "apart"] 2 ["apart"] [.non] (sp0 K 3 (@m_flows (hsI P w))) := by
  obtain ⟨fd, F⟩ := c.def_ 54 (d := d_flows) rfl
  have g := He.glo_ok X G (c.fact 54 (f := .glo "flows") rfl)
  have t_tuple := He.free_ok X G (c.fact 70 (f := .free "tuple") rfl)
  obtain ⟨⟨f_profile_of, fd_profile_of, g_profile_of, kp_profile_of, b_profile_of, G_profile_of⟩⟩ := ok_profile_of (w := w) (P := P) X G c
  obtain ⟨⟨f_profile_count, fd_profile_count, g_profile_count, kp_profile_count, b_profile_count, G_profile_count⟩⟩ := ok_profile_count (w := w) (P := P) X G c
  obtain ⟨⟨f_unit_transactions, fd_unit_transactions, g_unit_transactions, kp_unit_transactions, b_unit_transactions, G_unit_transactions⟩⟩ := ok_unit_transactions (w := w) (P := P) X G c
  obtain ⟨⟨f_profile_apart, fd_profile_apart, g_profile_apart, kp_profile_apart, b_profile_apart, G_profile_apart⟩⟩ := ok_profile_apart (w := w) (P := P) X G c
  obtain ⟨ds, hv, hb, hkb⟩ := FunD.two (ps := ["model", "ledger", "apart"]) F 2 (by simp [He.DefD.kws, d_flows]) rfl ["apart"] (fun D doc pm an cdv ct us ks l1 l2 => match us, ks, l1, l2 with | [_, _], [_], _, _ => ⟨_, _, _, _, _, _, rfl, rfl, rfl⟩) (fun D doc pm an cdv ct us ws l1 l2 => match us, ws, l1, l2 with | [_, _], [_], _, _ => rfl)
  exact ⟨_, fd, ds, g, F.kp, hv, hb, hkb, fn0 F sc_flows fun cdv A outer s H E hr => ⟨_, PSs.nox (pss_cons (ps_setLc (i := 3) (own := [("names", 4)]) (g := (gName 4)) rfl sc_flows.nd rfl rfl (sw_true rfl rfl rfl (by kernel_rfl)) (pi_seq (pe_ix ix_seq (pv 1) pe_int (fun _ _ => rfl))) (blkOk_by (own := [("names", 4)]) (by kernel_rfl)) (fun _ _ _ _ _ => (pg_name (i := 4) sc_flows.nd rfl (Or.inl rfl))) (fun _ _ _ _ _ => pts_nil) (fun _ _ _ _ _ => (pe_call G_profile_of (hr.mono (by decide)) (by rfl) g_profile_of kp_profile_of b_profile_of .nil pass0 (pa_cons (pv 0) (pa_cons (pv 4) pa_nil)))))
      (pss_cons (ps_if (pt_cmpR op_notN (pv 2) pe_non (nomark _)) (pss_one (ps_asg (pe_call G_profile_count (hr.mono (by decide)) (by rfl) g_profile_count kp_profile_count b_profile_count .nil pass0 (pa_cons (pv 0) pa_nil)) (pg_sub (pv 3) (pv 2) set_list))) pss_nil)
      (pss_cons (ps_set (i := 5) sc_flows.nd rfl (Or.inl rfl) (pe_call G_unit_transactions (hr.mono (by decide)) (by rfl) g_unit_transactions kp_unit_transactions b_unit_transactions .nil pass0 (pa_cons (pv 0) (pa_cons (pe_call G_profile_apart (hr.mono (by decide)) (by rfl) g_profile_apart kp_profile_apart b_profile_apart .nil pass0 (pa_cons (pv 0) (pa_cons (pv 1) (pa_cons (pv 2) pa_nil)))) pa_nil))))
      (pss_cons (ps_set (i := 6) sc_flows.nd rfl (Or.inr rfl) (pe_dcT (own := [("unit", 7)]) (g := (gName 7)) rfl (u0 hr.units) sc_flows.nd (pi_seq (pv 5)) (blkOk_by (own := [("unit", 7)]) (by kernel_rfl)) (fun _ _ _ _ _ => (pg_name (i := 7) sc_flows.nd rfl (Or.inl rfl))) (fun _ _ _ _ _ => pts_nil) (fun _ _ _ _ _ => (pv 7)) (fun _ _ _ _ _ => pe_int)))
      (pss_cons (ps_for PassesOwn.never rfl (pi_seq (pe_ix ix_seq (pv 1) pe_int (fun _ _ => rfl))) (pg_tup rfl (pgs_cons (pg_name (i := 8) sc_flows.nd rfl (Or.inl rfl)) (pgs_cons (pg_name (i := 9) sc_flows.nd rfl (Or.inl rfl)) (pgs_cons (pg_name (i := 10) sc_flows.nd rfl (Or.inl rfl)) (pgs_cons (pg_name (i := 11) sc_flows.nd rfl (Or.inl rfl)) pgs_nil))))) (pss_cons (ps_set (i := 7) sc_flows.nd rfl (Or.inl rfl) (pe_tupF (pa_cons (pv 8) (pa_cons (pe_ix ix_seq (pv 3) (pv 9) (fun _ _ => rfl)) (pa_cons (pe_ix ix_seq (pv 3) (pv 10) (fun _ _ => rfl)) pa_nil)))))
      (pss_one (ps_asg (pe_op op_addAll (pe_ix (ix_all3 (u1 hr.units)) (pv 6) (pv 7) (fun _ _ => rfl)) (pv 11)) (pg_sub (pv 6) (pv 7) (set_tdict (u1 hr.units)))))))
      (pss_one (ps_ret (pe_callTy call_tuple_ofF (by rfl) t_tuple bt_tuple (pa_cons (pe_lc (own := [("unit", 7)]) (g := (gName 7)) rfl sc_flows.nd (pi_seq (pv 5)) (blkOk_by (own := [("unit", 7)]) (by kernel_rfl)) (fun _ _ _ _ _ => (pg_name (i := 7) sc_flows.nd rfl (Or.inl rfl))) (fun _ _ _ _ _ => pts_nil) (fun _ _ _ _ _ => (pe_ix (ix_all3 (u1 hr.units)) (pv 6) (pv 7) (fun _ _ => rfl)))) pa_nil))))))))),
    (simS_seq (simS_asgO (simN_lc (simI_seq (sim_op rop_ix (simX_e sim_var) (simX_e sim_c_int))) simG_n (by decide) simT_yes (sim_call0 rfl (sim_cons (simX_e sim_var) (sim_cons (simX_e sim_var) sim_nil)))))
      (simS_seq (simS_if (simT_test (sim_op rop_notN (simX_e sim_var) (simX_e sim_c_non))) (simS_set sim_var (sim_call0 rfl (sim_cons (simX_e sim_var) sim_nil))) simS_next)
      (simS_seq (simS_asg (sim_call0 rfl (sim_cons (simX_e sim_var) (sim_cons (simX_e (sim_call0 rfl (sim_cons (simX_e sim_var) (sim_cons (simX_e sim_var) (sim_cons (simX_e sim_var) sim_nil))))) sim_nil))) simG_n)
      (simS_seq (simS_asgO (simN_dc (simI_seq sim_var) simG_n (by decide) sim_var sim_c_int))
      (simS_seq (simS_for (simI_seq (sim_op rop_ix (simX_e sim_var) (simX_e sim_c_int))) (simG_t (simGs_cons simG_n (simGs_cons simG_n (simGs_cons simG_n (simGs_cons simG_n simGs_nil))))) (simS_seq (simS_asg (sim_tup (Nat.le_of_ble_eq_true rfl) (sim_cons (simX_e sim_var) (sim_cons (simX_e (sim_op rop_ix simX_s (simX_e sim_var))) (sim_cons (simX_e (sim_op rop_ix simX_s (simX_e sim_var))) sim_nil)))) simG_n)
      (simS_put3 sim_var (sim_op rop_add (simX_e (sim_op rop_ix3 simX_s (simX_e sim_var))) (simX_e sim_var)))))
      (simS_ret (sim_cb rcl_tup (sim_cons (simX_e (simN_e (simN_lc (simI_seq sim_var) simG_n (by decide) simT_yes (sim_op rop_ix3 simX_s (simX_e sim_var))))) sim_nil))))))))⟩⟩
theorem ok__law_kind (X : K.In base) (G : base.Ns mainGlobals mg) (c : He.SaysD fa fn K) : Ok P w K mg base "_law_kind" 45 ["tape", "name", "sectors", "accounts", "size", "wide"] (sp1 K 5 m__law_kind) := by
  obtain ⟨fd, F⟩ := c.def_ 55 (d := d__law_kind) rfl
  have g := He.glo_ok X G (c.fact 55 (f := .glo "_law_kind") rfl)
  obtain ⟨⟨f__law_some_sector, fd__law_some_sector, g__law_some_sector, kp__law_some_sector, b__law_some_sector, G__law_some_sector⟩⟩ := ok__law_some_sector (w := w) (P := P) X G c
  obtain ⟨⟨f__law_entries, fd__law_entries, g__law_entries, kp__law_entries, b__law_entries, G__law_entries⟩⟩ := ok__law_entries (w := w) (P := P) X G c
  obtain ⟨⟨f__law_draw, fd__law_draw, g__law_draw, kp__law_draw, b__law_draw, G__law_draw⟩⟩ := ok__law_draw (w := w) (P := P) X G c
  obtain ⟨⟨f__law_negated, fd__law_negated, g__law_negated, kp__law_negated, b__law_negated, G__law_negated⟩⟩ := ok__law_negated (w := w) (P := P) X G c
  exact ⟨_, fd, g, F.kp, (F.bindsN (ps := ["tape", "name", "sectors", "accounts", "size", "wide"]) (fun _ _ _ _ _ _ us hl => match us, hl with | [_, _, _, _, _, _], _ => rfl)), fn1 F sc__law_kind fun cdv A outer s H E hr => ⟨_, PSs.nox (pss_cons (ps_set (i := 6) sc__law_kind.nd rfl (Or.inl rfl) (pe_call G__law_some_sector (hr.mono (by decide)) (by rfl) g__law_some_sector kp__law_some_sector b__law_some_sector .nil pass0 (pa_cons (pv 0) (pa_cons (pv 2) (pa_cons (pv 4) (pa_cons pe_int pa_nil))))))
      (pss_cons (ps_set (i := 7) sc__law_kind.nd rfl (Or.inl rfl) (pe_call G__law_some_sector (hr.mono (by decide)) (by rfl) g__law_some_sector kp__law_some_sector b__law_some_sector .nil pass0 (pa_cons (pv 0) (pa_cons (pv 2) (pa_cons (pv 4) (pa_cons pe_int pa_nil))))))
      (pss_cons (ps_set (i := 8) sc__law_kind.nd rfl (Or.inl rfl) (pe_call G__law_entries (hr.mono (by decide)) (by rfl) g__law_entries kp__law_entries b__law_entries .nil pass0 (pa_cons (pv 0) (pa_cons (pv 3) (pa_cons (pv 5) pa_nil)))))
      (pss_cons (ps_set (i := 9) sc__law_kind.nd rfl (Or.inl rfl) (pe_call G__law_entries (hr.mono (by decide)) (by rfl) g__law_entries kp__law_entries b__law_entries .nil pass0 (pa_cons (pv 0) (pa_cons (pv 3) (pa_cons (pv 5) pa_nil)))))
      (pss_cons (ps_if (pt_cmpR (op_eqAll hr.units) (pe_call G__law_draw (hr.mono (by decide)) (by rfl) g__law_draw kp__law_draw b__law_draw .nil pass0 (pa_cons (pv 0) (pa_cons pe_int pa_nil))) pe_int (nomark _)) (pss_one (ps_set (i := 9) sc__law_kind.nd rfl (Or.inl rfl) (pe_call G__law_negated (hr.mono (by decide)) (by rfl) g__law_negated kp__law_negated b__law_negated .nil pass0 (pa_cons (pv 8) pa_nil)))) pss_nil)
      (pss_one (ps_ret (pe_tupF (pa_cons (pv 1) (pa_cons (pv 6) (pa_cons (pv 8) (pa_cons (pv 7) (pa_cons (pv 9) pa_nil))))))))))))),
    (simS_seq (simS_asg (sim_call1 rfl (sim_cons (simX_e sim_var) (sim_cons (simX_e sim_var) (sim_cons (simX_e sim_c_int) sim_nil)))) simG_n)
      (simS_seq (simS_asg (sim_call1 rfl (sim_cons (simX_e sim_var) (sim_cons (simX_e sim_var) (sim_cons (simX_e sim_c_int) sim_nil)))) simG_n)
      (simS_seq (simS_asg (sim_call1 rfl (sim_cons (simX_e sim_var) (sim_cons (simX_e sim_var) sim_nil))) simG_n)
      (simS_seq (simS_asg (sim_call1 rfl (sim_cons (simX_e sim_var) (sim_cons (simX_e sim_var) sim_nil))) simG_n)
      (simS_seq (simS_if (simT_test (sim_op rop_eq (simX_e (sim_call1 rfl (sim_cons (simX_e sim_c_int) sim_nil))) (simX_e sim_c_int))) (simS_asg (sim_call0 rfl (sim_cons (simX_e sim_var) sim_nil)) simG_n) simS_next)
      (simS_ret (sim_tup (Nat.le_of_ble_eq_true rfl) (sim_cons (simX_e sim_var) (sim_cons (simX_e sim_var) (sim_cons (simX_e sim_var) (sim_cons (simX_e sim_var) (sim_cons (simX_e sim_var) sim_nil))))))))))))⟩⟩
theorem ok__law_constraint (X : K.In base) (G : base.Ns mainGlobals mg) (c : He.SaysD fa fn K) : Ok P w K mg base "_law_constraint" 45 ["tape", "sectors", "accounts", "many", "size", "wide"] (sp1 K 5 m__law_constraint) := by
  obtain ⟨fd, F⟩ := c.def_ 56 (d := d__law_constraint) rfl
  have g := He.glo_ok X G (c.fact 56 (f := .glo "_law_constraint") rfl)
  have t_range := He.free_ok X G (c.fact 71 (f := .free "range") rfl)
  have t_len := He.free_ok X G (c.fact 67 (f := .free "len") rfl)
  have t_tuple := He.free_ok X G (c.fact 70 (f := .free "tuple") rfl)
  obtain ⟨⟨f__law_draw, fd__law_draw, g__law_draw, kp__law_draw, b__law_draw, G__law_draw⟩⟩ := ok__law_draw (w := w) (P := P) X G c
  obtain ⟨⟨f__law_number, fd__law_number, g__law_number, kp__law_number, b__law_number, G__law_number⟩⟩ := ok__law_number (w := w) (P := P) X G c
  obtain ⟨⟨f__law_some_sector, fd__law_some_sector, g__law_some_sector, kp__law_some_sector, b__law_some_sector, G__law_some_sector⟩⟩ := ok__law_some_sector (w := w) (P := P) X G c
  exact ⟨_, fd, g, F.kp, (F.bindsN (ps := ["tape", "sectors", "accounts", "many", "size", "wide"]) (fun _ _ _ _ _ _ us hl => match us, hl with | [_, _, _, _, _, _], _ => rfl)), fn1 F sc__law_constraint fun cdv A outer s H E hr => ⟨_, PSs.nox (pss_cons (ps_set (i := 6) sc__law_constraint.nd rfl (Or.inl rfl) (pe_ix ix_seq (pe_lst (pa_cons pe_str (pa_cons pe_str (pa_cons pe_str pa_nil)))) (pe_call G__law_draw (hr.mono (by decide)) (by rfl) g__law_draw kp__law_draw b__law_draw .nil pass0 (pa_cons (pv 0) (pa_cons pe_int pa_nil))) (fun _ _ => rfl)))
      (pss_cons (ps_set (i := 7) sc__law_constraint.nd rfl (Or.inl rfl) (pe_lst pa_nil))
      (pss_cons (ps_for PassesOwn.never rfl (pi_range1 (by rfl) t_range (pa_cons (pe_op op_addAll pe_int (pe_call G__law_draw (hr.mono (by decide)) (by rfl) g__law_draw kp__law_draw b__law_draw .nil pass0 (pa_cons (pv 0) (pa_cons (pv 3) pa_nil)))) pa_nil)) (pg_name (i := 8) sc__law_constraint.nd rfl (Or.inl rfl)) (pss_cons (ps_set (i := 9) sc__law_constraint.nd rfl (Or.inl rfl) (pe_call G__law_number (hr.mono (by decide)) (by rfl) g__law_number kp__law_number b__law_number .nil pass0 (pa_cons (pv 0) (pa_cons (pv 5) pa_nil))))
      (pss_one (ps_expr (pe_bm PySem.F.plainAttrs_list PySem.F.slot_list_append PySem.F.type_list_append mt_append (pv 7) (pa_cons (pe_tupF (pa_cons (pv 9) (pa_cons (pe_ix ix_seq (pv 2) (pe_call G__law_draw (hr.mono (by decide)) (by rfl) g__law_draw kp__law_draw b__law_draw .nil pass0 (pa_cons (pv 0) (pa_cons (pe_callB call_lenAll (by rfl) t_len bt_len (pa_cons (pv 2) pa_nil)) pa_nil))) (fun _ _ => rfl)) pa_nil))) pa_nil))))))
      (pss_cons (ps_if (pt_cmpR (op_eqAll hr.units) (pe_call G__law_draw (hr.mono (by decide)) (by rfl) g__law_draw kp__law_draw b__law_draw .nil pass0 (pa_cons (pv 0) (pa_cons pe_int pa_nil))) pe_int (nomark _)) (pss_one (ps_ret (pe_tupF (pa_cons pe_str (pa_cons (pe_call G__law_some_sector (hr.mono (by decide)) (by rfl) g__law_some_sector kp__law_some_sector b__law_some_sector .nil pass0 (pa_cons (pv 0) (pa_cons (pv 1) (pa_cons (pv 4) (pa_cons pe_int pa_nil))))) (pa_cons (pe_callTy call_tuple_ofF (by rfl) t_tuple bt_tuple (pa_cons (pv 7) pa_nil)) (pa_cons (pv 6) pa_nil))))))) pss_nil)
      (pss_cons (ps_setLc (i := 10) (own := [("term", 11)]) (g := (gName 11)) rfl sc__law_constraint.nd rfl rfl (sw_true rfl rfl rfl (by kernel_rfl)) (pi_seq (pv 7)) (blkOk_by (own := [("term", 11)]) (by kernel_rfl)) (fun _ _ _ _ _ => (pg_name (i := 11) sc__law_constraint.nd rfl (Or.inl rfl))) (fun _ _ _ _ _ => pts_nil) (fun _ _ _ _ _ => (pe_op op_addAll (pv 11) (pe_tupF (pa_cons (pe_call G__law_some_sector (hr.mono (by decide)) (by rfl) g__law_some_sector kp__law_some_sector b__law_some_sector .nil pass0 (pa_cons (pv 0) (pa_cons (pv 1) (pa_cons (pv 4) (pa_cons pe_int pa_nil))))) pa_nil)))))
      (pss_one (ps_ret (pe_tupF (pa_cons pe_str (pa_cons (pe_callTy call_tuple_ofF (by rfl) t_tuple bt_tuple (pa_cons (pv 10) pa_nil)) (pa_cons (pv 6) pa_nil))))))))))),
    (simS_seq (simS_asg (sim_op rop_ix (simX_e (simN_e (simN_lst (Nat.le_of_ble_eq_true rfl) (sim_cons (simX_e sim_c_str) (sim_cons (simX_e sim_c_str) (sim_cons (simX_e sim_c_str) sim_nil)))))) (simX_e (sim_call1 rfl (sim_cons (simX_e sim_c_int) sim_nil)))) simG_n)
      (simS_seq (simS_asgO (simN_lst (Nat.le_of_ble_eq_true rfl) sim_nil))
      (simS_seq (simS_for (simI_rng1 (sim_cons (simX_e (sim_op rop_add (simX_e sim_c_int) (simX_e (sim_call1 rfl (sim_cons (simX_e sim_var) sim_nil))))) sim_nil)) simG_n (simS_seq (simS_asg (sim_call1 rfl (sim_cons (simX_e sim_var) sim_nil)) simG_n)
      (simS_expr (sim_mut rmut_app (sim_cons (simX_e (sim_tup (Nat.le_of_ble_eq_true rfl) (sim_cons (simX_e sim_var) (sim_cons (simX_e (sim_op rop_ix (simX_e sim_var) (simX_e (sim_call1 rfl (sim_cons (simX_e (sim_cb rcl_len (sim_cons (simX_e sim_var) sim_nil))) sim_nil))))) sim_nil)))) sim_nil)))))
      (simS_seq (simS_if (simT_test (sim_op rop_eq (simX_e (sim_call1 rfl (sim_cons (simX_e sim_c_int) sim_nil))) (simX_e sim_c_int))) (simS_ret (sim_tup (Nat.le_of_ble_eq_true rfl) (sim_cons (simX_e sim_c_str) (sim_cons (simX_e (sim_call1 rfl (sim_cons (simX_e sim_var) (sim_cons (simX_e sim_var) (sim_cons (simX_e sim_c_int) sim_nil))))) (sim_cons (simX_e (sim_cb rcl_tup (sim_cons simX_s sim_nil))) (sim_cons (simX_e sim_var) sim_nil)))))) simS_next)
      (simS_seq (simS_frz (i := 7) (simS_asg (simN_e (simN_lc (simI_seq sim_var) simG_n (by decide) simT_yes (sim_op rop_add (simX_e sim_var) (simX_e (sim_tup (Nat.le_of_ble_eq_true rfl) (sim_cons (simX_e (sim_call1 rfl (sim_cons (simX_e sim_var) (sim_cons (simX_e sim_var) (sim_cons (simX_e sim_c_int) sim_nil))))) sim_nil)))))) simG_n))
      (simS_ret (sim_tup (Nat.le_of_ble_eq_true rfl) (sim_cons (simX_e sim_c_str) (sim_cons (simX_e (sim_cb rcl_tup (sim_cons (simX_e sim_var) sim_nil))) (sim_cons (simX_e sim_var) sim_nil))))))))))⟩⟩
theorem ok__law_claim (X : K.In base) (G : base.Ns mainGlobals mg) (c : He.SaysD fa fn K) : Ok P w K mg base "_law_claim" 46 ["tape", "sectors", "accounts", "premises", "many", "size", "wide"] (sp1 K 6 m__law_claim) := by
  obtain ⟨fd, F⟩ := c.def_ 57 (d := d__law_claim) rfl
  have g := He.glo_ok X G (c.fact 57 (f := .glo "_law_claim") rfl)
  have t_range := He.free_ok X G (c.fact 71 (f := .free "range") rfl)
  have t_tuple := He.free_ok X G (c.fact 70 (f := .free "tuple") rfl)
  obtain ⟨⟨f__law_draw, fd__law_draw, g__law_draw, kp__law_draw, b__law_draw, G__law_draw⟩⟩ := ok__law_draw (w := w) (P := P) X G c
  obtain ⟨⟨f__law_constraint, fd__law_constraint, g__law_constraint, kp__law_constraint, b__law_constraint, G__law_constraint⟩⟩ := ok__law_constraint (w := w) (P := P) X G c
  exact ⟨_, fd, g, F.kp, (F.bindsN (ps := ["tape", "sectors", "accounts", "premises", "many", "size", "wide"]) (fun _ _ _ _ _ _ us hl => match us, hl with | [_, _, _, _, _, _, _], _ => rfl)), fn1 F sc__law_claim fun cdv A outer s H E hr => ⟨_, PSs.nox (pss_cons (ps_set (i := 7) sc__law_claim.nd rfl (Or.inl rfl) (pe_lst pa_nil))
      (pss_cons (ps_for PassesOwn.never rfl (pi_range1 (by rfl) t_range (pa_cons (pe_call G__law_draw (hr.mono (by decide)) (by rfl) g__law_draw kp__law_draw b__law_draw .nil pass0 (pa_cons (pv 0) (pa_cons (pe_op op_addAll (pv 3) pe_int) pa_nil))) pa_nil)) (pg_name (i := 8) sc__law_claim.nd rfl (Or.inl rfl)) (pss_one (ps_expr (pe_bm PySem.F.plainAttrs_list PySem.F.slot_list_append PySem.F.type_list_append mt_append (pv 7) (pa_cons (pe_call G__law_constraint (hr.mono (by decide)) (by rfl) g__law_constraint kp__law_constraint b__law_constraint .nil pass0 (pa_cons (pv 0) (pa_cons (pv 1) (pa_cons (pv 2) (pa_cons (pv 4) (pa_cons (pv 5) (pa_cons (pv 6) pa_nil))))))) pa_nil)))))
      (pss_one (ps_ret (pe_tupF (pa_cons (pe_callTy call_tuple_ofF (by rfl) t_tuple bt_tuple (pa_cons (pv 7) pa_nil)) (pa_cons (pe_call G__law_constraint (hr.mono (by decide)) (by rfl) g__law_constraint kp__law_constraint b__law_constraint .nil pass0 (pa_cons (pv 0) (pa_cons (pv 1) (pa_cons (pv 2) (pa_cons (pv 4) (pa_cons (pv 5) (pa_cons (pv 6) pa_nil))))))) pa_nil))))))),
    (simS_seq (simS_asgO (simN_lst (Nat.le_of_ble_eq_true rfl) sim_nil))
      (simS_seq (simS_for (simI_rng1 (sim_cons (simX_e (sim_call1 rfl (sim_cons (simX_e (sim_op rop_add (simX_e sim_var) (simX_e sim_c_int))) sim_nil))) sim_nil)) simG_n (simS_expr (sim_mut rmut_app (sim_cons (simX_e (sim_call1 rfl (sim_cons (simX_e sim_var) (sim_cons (simX_e sim_var) (sim_cons (simX_e sim_var) (sim_cons (simX_e sim_var) (sim_cons (simX_e sim_var) sim_nil))))))) sim_nil))))
      (simS_ret (sim_tup (Nat.le_of_ble_eq_true rfl) (sim_cons (simX_e (sim_cb rcl_tup (sim_cons simX_s sim_nil))) (sim_cons (simX_e (sim_call1 rfl (sim_cons (simX_e sim_var) (sim_cons (simX_e sim_var) (sim_cons (simX_e sim_var) (sim_cons (simX_e sim_var) (sim_cons (simX_e sim_var) sim_nil))))))) sim_nil))))))⟩⟩
theorem ok__law_one_by_one (X : K.In base) (G : base.Ns mainGlobals mg) (c : He.SaysD fa fn K) : Ok P w K mg base "_law_one_by_one" 46 ["model", "told", "total"] (sp0 K 3 m__law_one_by_one) := by
  obtain ⟨fd, F⟩ := c.def_ 58 (d := d__law_one_by_one) rfl
  have g := He.glo_ok X G (c.fact 58 (f := .glo "_law_one_by_one") rfl)
  obtain ⟨⟨f__law_sets, fd__law_sets, g__law_sets, kp__law_sets, b__law_sets, G__law_sets⟩⟩ := ok__law_sets (w := w) (P := P) X G c
  obtain ⟨⟨f__law_same, fd__law_same, g__law_same, kp__law_same, b__law_same, G__law_same⟩⟩ := ok__law_same FUEL__law_same (w := w) (P := P) X G c
  obtain ⟨⟨f_value, fd_value, g_value, kp_value, b_value, G_value⟩⟩ := ok_value (w := w) (P := P) X G c
  exact ⟨_, fd, g, F.kp, (F.bindsN (ps := ["model", "told", "total"]) (fun _ _ _ _ _ _ us hl => match us, hl with | [_, _, _], _ => rfl)), fn0 F sc__law_one_by_one fun cdv A outer s H E hr => ⟨_, PSs.nox (pss_cons (ps_set (i := 3) sc__law_one_by_one.nd rfl (Or.inl rfl) (pe_call G__law_sets (hr.mono (by decide)) (by rfl) g__law_sets kp__law_sets b__law_sets .nil pass0 (pa_cons (pe_ix ix_seq (pv 0) pe_int (fun _ _ => rfl)) pa_nil)))
      (pss_cons (ps_set (i := 4) sc__law_one_by_one.nd rfl (Or.inl rfl) pe_int)
      (pss_cons (ps_for PassesOwn.never rfl (pi_seq (pv 1)) (pg_name (i := 5) sc__law_one_by_one.nd rfl (Or.inl rfl)) (pss_one (ps_if (PW.pt (pw_and (pt_cmpR op_lt (pe_ix ix_seq (pv 5) pe_int (fun _ _ => rfl)) pe_int (nomark _)) (pw_and1 (pt_cmpR op_gt (pv 4) pe_int (nomark _))))) (pss_cons (ps_set (i := 4) sc__law_one_by_one.nd rfl (Or.inl rfl) (pe_op op_sub (pv 4) pe_int))
      (pss_cons (ps_set (i := 6) sc__law_one_by_one.nd rfl (Or.inl rfl) (pe_tupF (pa_cons (pe_tupF (pa_cons (pe_ix ix_seq (pv 3) (pe_ix ix_seq (pv 5) pe_int (fun _ _ => rfl)) (fun _ _ => rfl)) (pa_cons (pe_ix ix_seq (pv 3) (pe_ix ix_seq (pv 5) pe_int (fun _ _ => rfl)) (fun _ _ => rfl)) pa_nil))) (pa_cons (pe_tupF (pa_cons (pe_tupF (pa_cons (pe_ix ix_seq (pv 5) pe_int (fun _ _ => rfl)) (pa_cons pe_int (pa_cons pe_int (pa_cons pe_int pa_nil))))) pa_nil)) pa_nil))))
      (pss_one (ps_if (pt_not (pt_truth (pe_call G__law_same (hr.mono (by decide)) (by rfl) g__law_same kp__law_same b__law_same .nil pass0 (pa_cons (pe_call G_value (hr.mono (by decide)) (by rfl) g_value kp_value b_value .nil pass0 (pa_cons (pv 0) (pa_cons (pv 6) (pa_cons (pv 2) pa_nil)))) (pa_cons (pe_ix ix_seq (pv 5) pe_int (fun _ _ => rfl)) pa_nil))) (fun _ => rfl))) (pss_one (ps_ret pe_bl)) pss_nil)))) pss_nil)))
      (pss_one (ps_ret pe_bl))))),
    (simS_seq (simS_asg (sim_call0 rfl (sim_cons (simX_e (sim_op rop_ix (simX_e sim_var) (simX_e sim_c_int))) sim_nil)) simG_n)
      (simS_seq (simS_asg sim_c_int simG_n)
      (simS_seq (simS_for (simI_seq sim_var) simG_n (simS_if (simT_and (simT_test (sim_op rop_lt (simX_e (sim_op rop_ix (simX_e sim_var) (simX_e sim_c_int))) (simX_e sim_c_int))) (simT_test (sim_op rop_gt (simX_e sim_var) (simX_e sim_c_int)))) (simS_seq (simS_asg (sim_op rop_sub (simX_e sim_var) (simX_e sim_c_int)) simG_n)
      (simS_seq (simS_asg (sim_tup (Nat.le_of_ble_eq_true rfl) (sim_cons (simX_e (sim_tup (Nat.le_of_ble_eq_true rfl) (sim_cons (simX_e (sim_op rop_ix (simX_e sim_var) (simX_e (sim_op rop_ix (simX_e sim_var) (simX_e sim_c_int))))) (sim_cons (simX_e (sim_op rop_ix (simX_e sim_var) (simX_e (sim_op rop_ix (simX_e sim_var) (simX_e sim_c_int))))) sim_nil)))) (sim_cons (simX_e (sim_tup (Nat.le_of_ble_eq_true rfl) (sim_cons (simX_e (sim_tup (Nat.le_of_ble_eq_true rfl) (sim_cons (simX_e (sim_op rop_ix (simX_e sim_var) (simX_e sim_c_int))) (sim_cons (simX_e sim_c_int) (sim_cons (simX_e sim_c_int) (sim_cons (simX_e sim_c_int) sim_nil)))))) sim_nil))) sim_nil))) simG_n)
      (simS_if (simT_not (simT_tru (simX_e (sim_call0 rfl (sim_cons (simX_e (sim_call0 rfl (sim_cons (simX_e sim_var) (sim_cons (simX_e sim_var) (sim_cons (simX_e sim_var) sim_nil))))) (sim_cons (simX_e (sim_op rop_ix (simX_e sim_var) (simX_e sim_c_int))) sim_nil)))))) (simS_ret sim_c_bl) simS_next))) simS_next))
      (simS_ret sim_c_bl))))⟩⟩
theorem ok__law_model (X : K.In base) (G : base.Ns mainGlobals mg) (c : He.SaysD fa fn K) : Ok P w K mg base "_law_model" 47 ["tape", "lists", "most", "many", "size", "wide"] (sp1 K 5 m__law_model) := by
  obtain ⟨fd, F⟩ := c.def_ 59 (d := d__law_model) rfl
  have g := He.glo_ok X G (c.fact 59 (f := .glo "_law_model") rfl)
  have t_list := He.free_ok X G (c.fact 66 (f := .free "list") rfl)
  have t_range := He.free_ok X G (c.fact 71 (f := .free "range") rfl)
  have t_len := He.free_ok X G (c.fact 67 (f := .free "len") rfl)
  have t_tuple := He.free_ok X G (c.fact 70 (f := .free "tuple") rfl)
  obtain ⟨⟨f__law_draw, fd__law_draw, g__law_draw, kp__law_draw, b__law_draw, G__law_draw⟩⟩ := ok__law_draw (w := w) (P := P) X G c
  obtain ⟨⟨f__law_kind, fd__law_kind, g__law_kind, kp__law_kind, b__law_kind, G__law_kind⟩⟩ := ok__law_kind (w := w) (P := P) X G c
  obtain ⟨⟨f__law_constraint, fd__law_constraint, g__law_constraint, kp__law_constraint, b__law_constraint, G__law_constraint⟩⟩ := ok__law_constraint (w := w) (P := P) X G c
  obtain ⟨⟨f__law_claim, fd__law_claim, g__law_claim, kp__law_claim, b__law_claim, G__law_claim⟩⟩ := ok__law_claim (w := w) (P := P) X G c
  exact ⟨_, fd, g, F.kp, (F.bindsN (ps := ["tape", "lists", "most", "many", "size", "wide"]) (fun _ _ _ _ _ _ us hl => match us, hl with | [_, _, _, _, _, _], _ => rfl)), fn1 F sc__law_model fun cdv A outer s H E hr => ⟨_, PSs.nox (pss_cons (ps_set (i := 6) sc__law_model.nd rfl (Or.inl rfl) (pe_ix ix_seq (pv 1) pe_int (fun _ _ => rfl)))
      (pss_cons (ps_set (i := 7) sc__law_model.nd rfl (Or.inl rfl) (pe_ix ix_seq (pv 1) pe_int (fun _ _ => rfl)))
      (pss_cons (ps_set (i := 8) sc__law_model.nd rfl (Or.inl rfl) (pe_callTy (call_listA rfl) (by rfl) t_list bt_list (pa_cons (pe_ix ix_seq (pv 1) pe_int (fun _ _ => rfl)) pa_nil)))
      (pss_cons (ps_set (i := 9) sc__law_model.nd rfl (Or.inl rfl) (pe_lst pa_nil))
      (pss_cons (ps_for PassesOwn.never rfl (pi_range1 (by rfl) t_range (pa_cons (pe_call G__law_draw (hr.mono (by decide)) (by rfl) g__law_draw kp__law_draw b__law_draw .nil pass0 (pa_cons (pv 0) (pa_cons (pe_op op_addAll (pe_ix ix_seq (pv 2) pe_int (fun _ _ => rfl)) pe_int) pa_nil))) pa_nil)) (pg_name (i := 10) sc__law_model.nd rfl (Or.inl rfl)) (pss_one (ps_expr (pe_bm PySem.F.plainAttrs_list PySem.F.slot_list_append PySem.F.type_list_append mt_append (pv 9) (pa_cons (pe_call G__law_kind (hr.mono (by decide)) (by rfl) g__law_kind kp__law_kind b__law_kind .nil pass0 (pa_cons (pv 0) (pa_cons (pe_bm PySem.F.plainAttrs_list PySem.F.slot_list_pop PySem.F.type_list_pop mt_popAt (pv 8) (pa_cons (pe_call G__law_draw (hr.mono (by decide)) (by rfl) g__law_draw kp__law_draw b__law_draw .nil pass0 (pa_cons (pv 0) (pa_cons (pe_callB call_lenAll (by rfl) t_len bt_len (pa_cons (pv 8) pa_nil)) pa_nil))) pa_nil)) (pa_cons (pv 6) (pa_cons (pv 7) (pa_cons (pv 4) (pa_cons (pv 5) pa_nil))))))) pa_nil)))))
      (pss_cons (ps_set (i := 11) sc__law_model.nd rfl (Or.inl rfl) (pe_lst pa_nil))
      (pss_cons (ps_for PassesOwn.never rfl (pi_range1 (by rfl) t_range (pa_cons (pe_call G__law_draw (hr.mono (by decide)) (by rfl) g__law_draw kp__law_draw b__law_draw .nil pass0 (pa_cons (pv 0) (pa_cons (pe_op op_addAll (pe_ix ix_seq (pv 2) pe_int (fun _ _ => rfl)) pe_int) pa_nil))) pa_nil)) (pg_name (i := 10) sc__law_model.nd rfl (Or.inl rfl)) (pss_cons (ps_set (i := 12) sc__law_model.nd rfl (Or.inl rfl) (pe_bm PySem.F.plainAttrs_list PySem.F.slot_list_pop PySem.F.type_list_pop mt_popAt (pv 8) (pa_cons (pe_call G__law_draw (hr.mono (by decide)) (by rfl) g__law_draw kp__law_draw b__law_draw .nil pass0 (pa_cons (pv 0) (pa_cons (pe_callB call_lenAll (by rfl) t_len bt_len (pa_cons (pv 8) pa_nil)) pa_nil))) pa_nil)))
      (pss_one (ps_expr (pe_bm PySem.F.plainAttrs_list PySem.F.slot_list_append PySem.F.type_list_append mt_append (pv 11) (pa_cons (pe_tupF (pa_cons (pv 12) (pa_cons (pe_call G__law_constraint (hr.mono (by decide)) (by rfl) g__law_constraint kp__law_constraint b__law_constraint .nil pass0 (pa_cons (pv 0) (pa_cons (pv 6) (pa_cons (pv 7) (pa_cons (pv 3) (pa_cons (pv 4) (pa_cons (pv 5) pa_nil))))))) pa_nil))) pa_nil))))))
      (pss_cons (ps_set (i := 13) sc__law_model.nd rfl (Or.inl rfl) (pe_lst pa_nil))
      (pss_cons (ps_for PassesOwn.never rfl (pi_range1 (by rfl) t_range (pa_cons (pe_call G__law_draw (hr.mono (by decide)) (by rfl) g__law_draw kp__law_draw b__law_draw .nil pass0 (pa_cons (pv 0) (pa_cons (pe_op op_addAll (pe_ix ix_seq (pv 2) pe_int (fun _ _ => rfl)) pe_int) pa_nil))) pa_nil)) (pg_name (i := 10) sc__law_model.nd rfl (Or.inl rfl)) (pss_cons (ps_set (i := 12) sc__law_model.nd rfl (Or.inl rfl) (pe_bm PySem.F.plainAttrs_list PySem.F.slot_list_pop PySem.F.type_list_pop mt_popAt (pv 8) (pa_cons (pe_call G__law_draw (hr.mono (by decide)) (by rfl) g__law_draw kp__law_draw b__law_draw .nil pass0 (pa_cons (pv 0) (pa_cons (pe_callB call_lenAll (by rfl) t_len bt_len (pa_cons (pv 8) pa_nil)) pa_nil))) pa_nil)))
      (pss_one (ps_expr (pe_bm PySem.F.plainAttrs_list PySem.F.slot_list_append PySem.F.type_list_append mt_append (pv 13) (pa_cons (pe_tupF (pa_cons (pv 12) (pa_cons (pe_call G__law_claim (hr.mono (by decide)) (by rfl) g__law_claim kp__law_claim b__law_claim .nil pass0 (pa_cons (pv 0) (pa_cons (pv 6) (pa_cons (pv 7) (pa_cons pe_int (pa_cons (pv 3) (pa_cons (pv 4) (pa_cons (pv 5) pa_nil)))))))) pa_nil))) pa_nil))))))
      (pss_one (ps_ret (pe_tupF (pa_cons (pv 6) (pa_cons (pv 7) (pa_cons (pe_callTy call_tuple_ofF (by rfl) t_tuple bt_tuple (pa_cons (pv 9) pa_nil)) (pa_cons (pe_callTy call_tuple_ofF (by rfl) t_tuple bt_tuple (pa_cons (pv 11) pa_nil)) (pa_cons (pe_callTy call_tuple_ofF (by rfl) t_tuple bt_tuple (pa_cons (pv 13) pa_nil)) pa_nil))))))))))))))))),
    (simS_seq (simS_asg (sim_op rop_ix (simX_e sim_var) (simX_e sim_c_int)) simG_n)
      (simS_seq (simS_asg (sim_op rop_ix (simX_e sim_var) (simX_e sim_c_int)) simG_n)
      (simS_seq (simS_asgO (simN_listA (sim_cons (simX_e (sim_op rop_ix (simX_e sim_var) (simX_e sim_c_int))) sim_nil)))
      (simS_seq (simS_asgO (simN_lst (Nat.le_of_ble_eq_true rfl) sim_nil))
      (simS_seq (simS_for (simI_rng1 (sim_cons (simX_e (sim_call1 rfl (sim_cons (simX_e (sim_op rop_add (simX_e (sim_op rop_ix (simX_e sim_var) (simX_e sim_c_int))) (simX_e sim_c_int))) sim_nil))) sim_nil)) simG_n (simS_expr (sim_mut rmut_app (sim_cons (simX_e (sim_call1 rfl (sim_cons (simX_e (sim_mut rmut_popAt (sim_cons (simX_e (sim_call1 rfl (sim_cons (simX_e (sim_cb rcl_len (sim_cons simX_s sim_nil))) sim_nil))) sim_nil))) (sim_cons (simX_e sim_var) (sim_cons (simX_e sim_var) (sim_cons (simX_e sim_var) (sim_cons (simX_e sim_var) sim_nil))))))) sim_nil))))
      (simS_seq (simS_asgO (simN_lst (Nat.le_of_ble_eq_true rfl) sim_nil))
      (simS_seq (simS_for (simI_rng1 (sim_cons (simX_e (sim_call1 rfl (sim_cons (simX_e (sim_op rop_add (simX_e (sim_op rop_ix (simX_e sim_var) (simX_e sim_c_int))) (simX_e sim_c_int))) sim_nil))) sim_nil)) simG_n (simS_seq (simS_asg (sim_mut rmut_popAt (sim_cons (simX_e (sim_call1 rfl (sim_cons (simX_e (sim_cb rcl_len (sim_cons simX_s sim_nil))) sim_nil))) sim_nil)) simG_n)
      (simS_expr (sim_mut rmut_app (sim_cons (simX_e (sim_tup (Nat.le_of_ble_eq_true rfl) (sim_cons (simX_e sim_var) (sim_cons (simX_e (sim_call1 rfl (sim_cons (simX_e sim_var) (sim_cons (simX_e sim_var) (sim_cons (simX_e sim_var) (sim_cons (simX_e sim_var) (sim_cons (simX_e sim_var) sim_nil))))))) sim_nil)))) sim_nil)))))
      (simS_seq (simS_asgO (simN_lst (Nat.le_of_ble_eq_true rfl) sim_nil))
      (simS_seq (simS_for (simI_rng1 (sim_cons (simX_e (sim_call1 rfl (sim_cons (simX_e (sim_op rop_add (simX_e (sim_op rop_ix (simX_e sim_var) (simX_e sim_c_int))) (simX_e sim_c_int))) sim_nil))) sim_nil)) simG_n (simS_seq (simS_asg (sim_mut rmut_popAt (sim_cons (simX_e (sim_call1 rfl (sim_cons (simX_e (sim_cb rcl_len (sim_cons simX_s sim_nil))) sim_nil))) sim_nil)) simG_n)
      (simS_expr (sim_mut rmut_app (sim_cons (simX_e (sim_tup (Nat.le_of_ble_eq_true rfl) (sim_cons (simX_e sim_var) (sim_cons (simX_e (sim_call1 rfl (sim_cons (simX_e sim_var) (sim_cons (simX_e sim_var) (sim_cons (simX_e sim_c_int) (sim_cons (simX_e sim_var) (sim_cons (simX_e sim_var) (sim_cons (simX_e sim_var) sim_nil)))))))) sim_nil)))) sim_nil)))))
      (simS_ret (sim_tup (Nat.le_of_ble_eq_true rfl) (sim_cons (simX_e sim_var) (sim_cons (simX_e sim_var) (sim_cons (simX_e (sim_cb rcl_tup (sim_cons simX_s sim_nil))) (sim_cons (simX_e (sim_cb rcl_tup (sim_cons simX_s sim_nil))) (sim_cons (simX_e (sim_cb rcl_tup (sim_cons simX_s sim_nil))) sim_nil))))))))))))))))⟩⟩
theorem fl_law {f : Addr} {fd : FuncData} (F : FunD K "law" "law" (defArgs s_law) (defBody s_law) (defScope s_law) [] [] f fd) (X : K.In base) (G : base.Ns mainGlobals mg) (c : He.SaysD fa fn K) : FnOk P w K mg base CX0 48 f fd ["script"] (sp0 K 1 (@m_law (hsI P w))) := by
  have t_tuple := He.free_ok X G (c.fact 70 (f := .free "tuple") rfl)
  have t_range := He.free_ok X G (c.fact 71 (f := .free "range") rfl)
  have t_len := He.free_ok X G (c.fact 67 (f := .free "len") rfl)
  obtain ⟨⟨f__law_tape, fd__law_tape, g__law_tape, kp__law_tape, b__law_tape, G__law_tape⟩⟩ := ok__law_tape (w := w) (P := P) X G c
  obtain ⟨⟨f__law_lists, fd__law_lists, g__law_lists, kp__law_lists, b__law_lists, G__law_lists⟩⟩ := ok__law_lists (w := w) (P := P) X G c
  obtain ⟨⟨f__law_model, fd__law_model, g__law_model, kp__law_model, b__law_model, G__law_model⟩⟩ := ok__law_model (w := w) (P := P) X G c
  obtain ⟨⟨f__law_draw, fd__law_draw, g__law_draw, kp__law_draw, b__law_draw, G__law_draw⟩⟩ := ok__law_draw (w := w) (P := P) X G c
  obtain ⟨⟨f__law_people, fd__law_people, g__law_people, kp__law_people, b__law_people, G__law_people⟩⟩ := ok__law_people (w := w) (P := P) X G c
  obtain ⟨⟨f__law_crowd, fd__law_crowd, g__law_crowd, kp__law_crowd, b__law_crowd, G__law_crowd⟩⟩ := ok__law_crowd (w := w) (P := P) X G c
  obtain ⟨⟨f__law_deals, fd__law_deals, g__law_deals, kp__law_deals, b__law_deals, G__law_deals⟩⟩ := ok__law_deals (w := w) (P := P) X G c
  obtain ⟨⟨f__law_posted, fd__law_posted, g__law_posted, kp__law_posted, b__law_posted, G__law_posted⟩⟩ := ok__law_posted (w := w) (P := P) X G c
  obtain ⟨⟨f__law_units, fd__law_units, g__law_units, kp__law_units, b__law_units, G__law_units⟩⟩ := ok__law_units (w := w) (P := P) X G c
  obtain ⟨⟨f__law_same, fd__law_same, g__law_same, kp__law_same, b__law_same, G__law_same⟩⟩ := ok__law_same FUEL__law_same (w := w) (P := P) X G c
  obtain ⟨⟨f_unit_transactions, fd_unit_transactions, g_unit_transactions, kp_unit_transactions, b_unit_transactions, G_unit_transactions⟩⟩ := ok_unit_transactions (w := w) (P := P) X G c
  obtain ⟨⟨f_flows, fd_flows, ds_flows, g_flows, kp_flows, v_flows, b_flows, kb_flows, G_flows⟩⟩ := ok_flows (w := w) (P := P) X G c
  obtain ⟨⟨f__law_flows, fd__law_flows, g__law_flows, kp__law_flows, b__law_flows, G__law_flows⟩⟩ := ok__law_flows (w := w) (P := P) X G c
  obtain ⟨⟨f__law_countered, fd__law_countered, g__law_countered, kp__law_countered, b__law_countered, G__law_countered⟩⟩ := ok__law_countered (w := w) (P := P) X G c
  obtain ⟨⟨f__law_some_sector, fd__law_some_sector, g__law_some_sector, kp__law_some_sector, b__law_some_sector, G__law_some_sector⟩⟩ := ok__law_some_sector (w := w) (P := P) X G c
  obtain ⟨⟨f__law_number, fd__law_number, g__law_number, kp__law_number, b__law_number, G__law_number⟩⟩ := ok__law_number (w := w) (P := P) X G c
  obtain ⟨⟨f_contributions, fd_contributions, g_contributions, kp_contributions, b_contributions, G_contributions⟩⟩ := ok_contributions (w := w) (P := P) X G c
  obtain ⟨⟨f__law_value, fd__law_value, g__law_value, kp__law_value, b__law_value, G__law_value⟩⟩ := ok__law_value (w := w) (P := P) X G c
  obtain ⟨⟨f__law_total, fd__law_total, g__law_total, kp__law_total, b__law_total, G__law_total⟩⟩ := ok__law_total (w := w) (P := P) X G c
  obtain ⟨⟨f_value, fd_value, g_value, kp_value, b_value, G_value⟩⟩ := ok_value (w := w) (P := P) X G c
  obtain ⟨⟨f__law_one_by_one, fd__law_one_by_one, g__law_one_by_one, kp__law_one_by_one, b__law_one_by_one, G__law_one_by_one⟩⟩ := ok__law_one_by_one (w := w) (P := P) X G c
  exact fn0 F sc_law fun cdv A outer s H E hr => ⟨_, PSs.nox (pss_cons (ps_set (i := 1) sc_law.nd rfl (Or.inl rfl) (pe_call G__law_tape (hr.mono (by decide)) (by rfl) g__law_tape kp__law_tape b__law_tape .nil pass0 (pa_cons (pv 0) pa_nil)))
      (pss_cons (ps_set (i := 2) sc_law.nd rfl (Or.inl rfl) (pe_call G__law_lists (hr.mono (by decide)) (by rfl) g__law_lists kp__law_lists b__law_lists .nil pass0 (pa_cons (pv 1) (pa_cons (pe_tupF (pa_cons pe_int (pa_cons pe_int pa_nil))) pa_nil))))
      (pss_cons (ps_set (i := 3) sc_law.nd rfl (Or.inl rfl) (pe_call G__law_model (hr.mono (by decide)) (by rfl) g__law_model kp__law_model b__law_model .nil pass0 (pa_cons (pv 1) (pa_cons (pv 2) (pa_cons (pe_tupF (pa_cons pe_int (pa_cons pe_int (pa_cons pe_int pa_nil)))) (pa_cons pe_int (pa_cons pe_int (pa_cons (pe_call G__law_draw (hr.mono (by decide)) (by rfl) g__law_draw kp__law_draw b__law_draw .nil pass0 (pa_cons (pv 1) (pa_cons pe_int pa_nil))) pa_nil))))))))
      (pss_cons (ps_set (i := 4) sc_law.nd rfl (Or.inl rfl) (pe_call G__law_people (hr.mono (by decide)) (by rfl) g__law_people kp__law_people b__law_people .nil pass0 (pa_cons (pv 1) (pa_cons (pe_ix ix_seq (pv 2) pe_int (fun _ _ => rfl)) (pa_cons (pe_call G__law_crowd (hr.mono (by decide)) (by rfl) g__law_crowd kp__law_crowd b__law_crowd .nil pass0 (pa_cons (pv 1) (pa_cons pe_int (pa_cons pe_int pa_nil)))) pa_nil)))))
      (pss_cons (ps_set (i := 5) sc_law.nd rfl (Or.inl rfl) (pe_call G__law_deals (hr.mono (by decide)) (by rfl) g__law_deals kp__law_deals b__law_deals .nil pass0 (pa_cons (pv 1) (pa_cons (pv 3) (pa_cons (pv 4) (pa_cons (pe_ix ix_seq (pe_lst (pa_cons pe_int (pa_cons pe_int (pa_cons pe_int pa_nil)))) (pe_call G__law_draw (hr.mono (by decide)) (by rfl) g__law_draw kp__law_draw b__law_draw .nil pass0 (pa_cons (pv 1) (pa_cons pe_int pa_nil))) (fun _ _ => rfl)) pa_nil))))))
      (pss_cons (ps_set (i := 6) sc_law.nd rfl (Or.inl rfl) (pe_tupF (pa_cons (pe_callTy call_tuple_ofF (by rfl) t_tuple bt_tuple (pa_cons (pv 4) pa_nil)) (pa_cons (pe_callTy call_tuple_ofF (by rfl) t_tuple bt_tuple (pa_cons (pv 5) pa_nil)) pa_nil))))
      (pss_cons (ps_set (i := 7) sc_law.nd rfl (Or.inl rfl) (pe_call G__law_posted (hr.mono (by decide)) (by rfl) g__law_posted kp__law_posted b__law_posted .nil pass0 (pa_cons (pv 3) (pa_cons (pv 4) (pa_cons (pv 5) pa_nil)))))
      (pss_cons (ps_set (i := 8) sc_law.nd rfl (Or.inl rfl) (pe_call G__law_units (hr.mono (by decide)) (by rfl) g__law_units kp__law_units b__law_units .nil pass0 (pa_cons (pv 3) (pa_cons pe_non pa_nil))))
      (pss_cons (ps_if (pt_not (pt_truth (pe_call G__law_same (hr.mono (by decide)) (by rfl) g__law_same kp__law_same b__law_same .nil pass0 (pa_cons (pe_call G_unit_transactions (hr.mono (by decide)) (by rfl) g_unit_transactions kp_unit_transactions b_unit_transactions .nil pass0 (pa_cons (pv 3) (pa_cons pe_non pa_nil))) (pa_cons (pe_callTy call_tuple_ofF (by rfl) t_tuple bt_tuple (pa_cons (pv 8) pa_nil)) pa_nil))) (fun _ => rfl))) (pss_one (ps_ret pe_bl)) pss_nil)
      (pss_cons (ps_set (i := 9) sc_law.nd rfl (Or.inl rfl) (pe_call G_flows (hr.mono (by decide)) (by rfl) g_flows kp_flows b_flows v_flows pass0 (pa_cons (pv 3) (pa_cons (pv 6) pa_nil))))
      (pss_cons (ps_if (pt_not (pt_truth (pe_call G__law_same (hr.mono (by decide)) (by rfl) g__law_same kp__law_same b__law_same .nil pass0 (pa_cons (pv 9) (pa_cons (pe_call G__law_flows (hr.mono (by decide)) (by rfl) g__law_flows kp__law_flows b__law_flows .nil pass0 (pa_cons (pv 3) (pa_cons (pv 4) (pa_cons (pv 5) (pa_cons pe_non pa_nil))))) pa_nil))) (fun _ => rfl))) (pss_one (ps_ret pe_bl)) pss_nil)
      (pss_cons (ps_set (i := 10) sc_law.nd rfl (Or.inl rfl) (pe_call G__law_countered (hr.mono (by decide)) (by rfl) g__law_countered kp__law_countered b__law_countered .nil pass0 (pa_cons (pv 2) (pa_cons (pv 3) pa_nil))))
      (pss_cons (ps_if (pt_not (pt_truth (pe_call G__law_same (hr.mono (by decide)) (by rfl) g__law_same kp__law_same b__law_same .nil pass0 (pa_cons (pe_call G_unit_transactions (hr.mono (by decide)) (by rfl) g_unit_transactions kp_unit_transactions b_unit_transactions .nil pass0 (pa_cons (pv 10) (pa_cons pe_non pa_nil))) (pa_cons (pe_callTy call_tuple_ofF (by rfl) t_tuple bt_tuple (pa_cons (pe_call G__law_units (hr.mono (by decide)) (by rfl) g__law_units kp__law_units b__law_units .nil pass0 (pa_cons (pv 10) (pa_cons pe_non pa_nil))) pa_nil)) pa_nil))) (fun _ => rfl))) (pss_one (ps_ret pe_bl)) pss_nil)
      (pss_cons (ps_for PassesOwn.never rfl (pi_range1 (by rfl) t_range (pa_cons pe_int pa_nil)) (pg_name (i := 11) sc_law.nd rfl (Or.inl rfl)) (pss_cons (ps_set (i := 12) sc_law.nd rfl (Or.inl rfl) (pe_lst pa_nil))
      (pss_cons (ps_for PassesOwn.never rfl (pi_range1 (by rfl) t_range (pa_cons (pe_op op_addAll pe_int (pe_call G__law_draw (hr.mono (by decide)) (by rfl) g__law_draw kp__law_draw b__law_draw .nil pass0 (pa_cons (pv 1) (pa_cons pe_int pa_nil)))) pa_nil)) (pg_name (i := 13) sc_law.nd rfl (Or.inl rfl)) (pss_cons (ps_set (i := 14) sc_law.nd rfl (Or.inl rfl) (pe_ix ix_seq (pe_ix ix_seq (pv 2) pe_int (fun _ _ => rfl)) (pe_call G__law_draw (hr.mono (by decide)) (by rfl) g__law_draw kp__law_draw b__law_draw .nil pass0 (pa_cons (pv 1) (pa_cons (pe_callB call_lenAll (by rfl) t_len bt_len (pa_cons (pe_ix ix_seq (pv 2) pe_int (fun _ _ => rfl)) pa_nil)) pa_nil))) (fun _ _ => rfl)))
      (pss_one (ps_expr (pe_bm PySem.F.plainAttrs_list PySem.F.slot_list_append PySem.F.type_list_append mt_append (pv 12) (pa_cons (pe_tupF (pa_cons (pe_call G__law_number (hr.mono (by decide)) (by rfl) g__law_number kp__law_number b__law_number .nil pass0 (pa_cons (pv 1) (pa_cons pe_int pa_nil))) (pa_cons (pv 14) (pa_cons (pe_call G__law_some_sector (hr.mono (by decide)) (by rfl) g__law_some_sector kp__law_some_sector b__law_some_sector .nil pass0 (pa_cons (pv 1) (pa_cons (pe_ix ix_seq (pv 2) pe_int (fun _ _ => rfl)) (pa_cons pe_int (pa_cons pe_int pa_nil))))) pa_nil)))) pa_nil))))))
      (pss_cons (ps_set (i := 15) sc_law.nd rfl (Or.inl rfl) (pe_tupF (pa_cons pe_str (pa_cons (pe_callTy call_tuple_ofF (by rfl) t_tuple bt_tuple (pa_cons (pv 12) pa_nil)) (pa_cons (pe_ix ix_seq (pe_lst (pa_cons pe_str (pa_cons pe_str pa_nil))) (pe_op op_fdivW (pv 11) pe_int) (fun _ _ => rfl)) pa_nil)))))
      (pss_cons (ps_set (i := 16) sc_law.nd rfl (Or.inl rfl) (pe_call G_contributions (hr.mono (by decide)) (by rfl) g_contributions kp_contributions b_contributions .nil pass0 (pa_cons (pv 3) (pa_cons (pv 15) pa_nil))))
      (pss_cons (ps_if (pt_not (pt_truth (pe_call G__law_same (hr.mono (by decide)) (by rfl) g__law_same kp__law_same b__law_same .nil pass0 (pa_cons (pe_callTy call_tuple_ofF (by rfl) t_tuple bt_tuple (pa_cons (pe_lc (own := [("row", 17)]) (g := (gName 17)) rfl sc_law.nd (pi_seq (pv 16)) (blkOk_by (own := [("row", 17)]) (by kernel_rfl)) (fun _ _ _ _ _ => (pg_name (i := 17) sc_law.nd rfl (Or.inl rfl))) (fun _ _ _ _ _ => pts_nil) (fun _ _ _ _ _ => (pe_slice sl_all (pv 17) po_none (po_some pe_int)))) pa_nil)) (pa_cons (pe_callTy call_tuple_ofF (by rfl) t_tuple bt_tuple (pa_cons (pv 8) pa_nil)) pa_nil))) (fun _ => rfl))) (pss_one (ps_ret pe_bl)) pss_nil)
      (pss_cons (ps_set (i := 18) sc_law.nd rfl (Or.inl rfl) (pe_call G__law_value (hr.mono (by decide)) (by rfl) g__law_value kp__law_value b__law_value .nil pass0 (pa_cons (pv 3) (pa_cons (pv 4) (pa_cons (pv 7) (pa_cons (pv 15) pa_nil))))))
      (pss_cons (ps_if (PW.pt (pw_or (pt_not (pt_truth (pe_call G__law_same (hr.mono (by decide)) (by rfl) g__law_same kp__law_same b__law_same .nil pass0 (pa_cons (pe_call G_value (hr.mono (by decide)) (by rfl) g_value kp_value b_value .nil pass0 (pa_cons (pv 3) (pa_cons (pv 6) (pa_cons (pv 15) pa_nil)))) (pa_cons (pv 18) pa_nil))) (fun _ => rfl))) (pw_or1 (pt_cmpR (op_neAll hr.units) (pe_call G__law_total (hr.mono (by decide)) (by rfl) g__law_total kp__law_total b__law_total .nil pass0 (pa_cons (pv 9) (pa_cons (pv 16) pa_nil))) (pv 18) (nomark _))))) (pss_one (ps_ret pe_bl)) pss_nil)
      (pss_cons (ps_if (PW.pt (pw_and (pt_cmpR (op_eqE hr.units) (pe_lc (own := [("row", 17)]) (g := (gName 17)) rfl sc_law.nd (pi_seq (pv 16)) (blkOk_by (own := [("row", 17)]) (by kernel_rfl)) (fun _ _ _ _ _ => (pg_name (i := 17) sc_law.nd rfl (Or.inl rfl))) (fun _ _ _ _ _ => (pts_one (pt_cmpR op_lt (pe_ix ix_seq (pv 17) pe_int (fun _ _ => rfl)) pe_int (nomark _)))) (fun _ _ _ _ _ => (pv 17))) (pe_lst pa_nil) (nomark _)) (pw_and1 (pt_cmpR op_lt (pv 18) pe_int (nomark _))))) (pss_one (ps_ret pe_bl)) pss_nil)
      (pss_cons (ps_if (pt_cmpR (op_neAll hr.units) (pe_call G__law_total (hr.mono (by decide)) (by rfl) g__law_total kp__law_total b__law_total .nil pass0 (pa_cons (pe_call G_flows (hr.mono (by decide)) (by rfl) g_flows kp_flows b_flows v_flows pass0 (pa_cons (pv 10) (pa_cons (pv 6) pa_nil))) (pa_cons (pe_call G_contributions (hr.mono (by decide)) (by rfl) g_contributions kp_contributions b_contributions .nil pass0 (pa_cons (pv 10) (pa_cons (pv 15) pa_nil))) pa_nil))) (pv 18) (nomark _)) (pss_one (ps_ret pe_bl)) pss_nil)
      (pss_one (ps_if (pt_not (pt_truth (pe_call G__law_one_by_one (hr.mono (by decide)) (by rfl) g__law_one_by_one kp__law_one_by_one b__law_one_by_one .nil pass0 (pa_cons (pv 3) (pa_cons (pv 16) (pa_cons (pv 15) pa_nil)))) (fun _ => rfl))) (pss_one (ps_ret pe_bl)) pss_nil))))))))))))
      (pss_one (ps_ret pe_bl)))))))))))))))),
    (simS_seq (simS_asgO (sim_callN rfl (sim_cons (simX_e sim_var) sim_nil)))
      (simS_seq (simS_asg (sim_call1 rfl (sim_cons (simX_e (sim_tup (Nat.le_of_ble_eq_true rfl) (sim_cons (simX_e sim_c_int) (sim_cons (simX_e sim_c_int) sim_nil)))) sim_nil)) simG_n)
      (simS_seq (simS_asg (sim_call1 rfl (sim_cons (simX_e sim_var) (sim_cons (simX_e (sim_tup (Nat.le_of_ble_eq_true rfl) (sim_cons (simX_e sim_c_int) (sim_cons (simX_e sim_c_int) (sim_cons (simX_e sim_c_int) sim_nil))))) (sim_cons (simX_e sim_c_int) (sim_cons (simX_e sim_c_int) (sim_cons (simX_e (sim_call1 rfl (sim_cons (simX_e sim_c_int) sim_nil))) sim_nil)))))) simG_n)
      (simS_seq (simS_asg (sim_call1 rfl (sim_cons (simX_e (sim_op rop_ix (simX_e sim_var) (simX_e sim_c_int))) (sim_cons (simX_e (sim_call1 rfl (sim_cons (simX_e sim_c_int) (sim_cons (simX_e sim_c_int) sim_nil)))) sim_nil))) simG_n)
      (simS_seq (simS_asg (sim_call1 rfl (sim_cons (simX_e sim_var) (sim_cons (simX_e sim_var) (sim_cons (simX_e (sim_op rop_ix (simX_e (simN_e (simN_lst (Nat.le_of_ble_eq_true rfl) (sim_cons (simX_e sim_c_int) (sim_cons (simX_e sim_c_int) (sim_cons (simX_e sim_c_int) sim_nil)))))) (simX_e (sim_call1 rfl (sim_cons (simX_e sim_c_int) sim_nil))))) sim_nil)))) simG_n)
      (simS_seq (simS_asg (sim_tup (Nat.le_of_ble_eq_true rfl) (sim_cons (simX_e (sim_cb rcl_tup (sim_cons (simX_e sim_var) sim_nil))) (sim_cons (simX_e (sim_cb rcl_tup (sim_cons (simX_e sim_var) sim_nil))) sim_nil))) simG_n)
      (simS_seq (simS_asg (sim_call0 rfl (sim_cons (simX_e sim_var) (sim_cons (simX_e sim_var) (sim_cons (simX_e sim_var) sim_nil)))) simG_n)
      (simS_seq (simS_asg (sim_call0 rfl (sim_cons (simX_e sim_var) (sim_cons (simX_e sim_c_non) sim_nil))) simG_n)
      (simS_seq (simS_if (simT_not (simT_tru (simX_e (sim_call0 rfl (sim_cons (simX_e (sim_call0 rfl (sim_cons (simX_e sim_var) (sim_cons (simX_e sim_c_non) sim_nil)))) (sim_cons (simX_e (sim_cb rcl_tup (sim_cons (simX_e sim_var) sim_nil))) sim_nil)))))) (simS_ret sim_c_bl) simS_next)
      (simS_seq (simS_asg (sim_callD (fun _ => (.cons .non .nil)) rfl rfl (sim_cons (simX_e sim_var) (sim_cons (simX_e sim_var) sim_nil))) simG_n)
      (simS_seq (simS_if (simT_not (simT_tru (simX_e (sim_call0 rfl (sim_cons (simX_e sim_var) (sim_cons (simX_e (sim_call0 rfl (sim_cons (simX_e sim_var) (sim_cons (simX_e sim_var) (sim_cons (simX_e sim_var) (sim_cons (simX_e sim_c_non) sim_nil)))))) sim_nil)))))) (simS_ret sim_c_bl) simS_next)
      (simS_seq (simS_asg (sim_call0 rfl (sim_cons (simX_e sim_var) (sim_cons (simX_e sim_var) sim_nil))) simG_n)
      (simS_seq (simS_if (simT_not (simT_tru (simX_e (sim_call0 rfl (sim_cons (simX_e (sim_call0 rfl (sim_cons (simX_e sim_var) (sim_cons (simX_e sim_c_non) sim_nil)))) (sim_cons (simX_e (sim_cb rcl_tup (sim_cons (simX_e (sim_call0 rfl (sim_cons (simX_e sim_var) (sim_cons (simX_e sim_c_non) sim_nil)))) sim_nil))) sim_nil)))))) (simS_ret sim_c_bl) simS_next)
      (simS_seq (simS_for (simI_rng1 (sim_cons (simX_e sim_c_int) sim_nil)) simG_n (simS_seq (simS_asgO (simN_lst (Nat.le_of_ble_eq_true rfl) sim_nil))
      (simS_seq (simS_for (simI_rng1 (sim_cons (simX_e (sim_op rop_add (simX_e sim_c_int) (simX_e (sim_call1 rfl (sim_cons (simX_e sim_c_int) sim_nil))))) sim_nil)) simG_n (simS_seq (simS_asg (sim_op rop_ix (simX_e (sim_op rop_ix (simX_e sim_var) (simX_e sim_c_int))) (simX_e (sim_call1 rfl (sim_cons (simX_e (sim_cb rcl_len (sim_cons (simX_e (sim_op rop_ix (simX_e sim_var) (simX_e sim_c_int))) sim_nil))) sim_nil)))) simG_n)
      (simS_expr (sim_mut rmut_app (sim_cons (simX_e (sim_tup (Nat.le_of_ble_eq_true rfl) (sim_cons (simX_e (sim_call1 rfl (sim_cons (simX_e sim_c_int) sim_nil))) (sim_cons (simX_e sim_var) (sim_cons (simX_e (sim_call1 rfl (sim_cons (simX_e (sim_op rop_ix (simX_e sim_var) (simX_e sim_c_int))) (sim_cons (simX_e sim_c_int) (sim_cons (simX_e sim_c_int) sim_nil))))) sim_nil))))) sim_nil)))))
      (simS_seq (simS_asg (sim_tup (Nat.le_of_ble_eq_true rfl) (sim_cons (simX_e sim_c_str) (sim_cons (simX_e (sim_cb rcl_tup (sim_cons simX_s sim_nil))) (sim_cons (simX_e (sim_op rop_ix (simX_e (simN_e (simN_lst (Nat.le_of_ble_eq_true rfl) (sim_cons (simX_e sim_c_str) (sim_cons (simX_e sim_c_str) sim_nil))))) (simX_e (sim_op rop_fdiv (simX_e sim_var) (simX_e sim_c_int))))) sim_nil)))) simG_n)
      (simS_seq (simS_asg (sim_call0 rfl (sim_cons (simX_e sim_var) (sim_cons (simX_e sim_var) sim_nil))) simG_n)
      (simS_seq (simS_if (simT_not (simT_tru (simX_e (sim_call0 rfl (sim_cons (simX_e (sim_cb rcl_tup (sim_cons (simX_e (simN_e (simN_lc (simI_seq sim_var) simG_n (by decide) simT_yes (sim_sl (simX_e sim_var) simO_none (simO_some sim_c_int))))) sim_nil))) (sim_cons (simX_e (sim_cb rcl_tup (sim_cons (simX_e sim_var) sim_nil))) sim_nil)))))) (simS_ret sim_c_bl) simS_next)
      (simS_seq (simS_asg (sim_call0 rfl (sim_cons (simX_e sim_var) (sim_cons (simX_e sim_var) (sim_cons (simX_e sim_var) (sim_cons (simX_e sim_var) sim_nil))))) simG_n)
      (simS_seq (simS_if (simT_or (simT_not (simT_tru (simX_e (sim_call0 rfl (sim_cons (simX_e (sim_call0 rfl (sim_cons (simX_e sim_var) (sim_cons (simX_e sim_var) (sim_cons (simX_e sim_var) sim_nil))))) (sim_cons (simX_e sim_var) sim_nil)))))) (simT_test (sim_op rop_ne (simX_e (sim_call0 rfl (sim_cons (simX_e sim_var) (sim_cons (simX_e sim_var) sim_nil)))) (simX_e sim_var)))) (simS_ret sim_c_bl) simS_next)
      (simS_seq (simS_if (simT_and (simT_test (sim_op rop_eqE (simX_e (simN_e (simN_lc (simI_seq sim_var) simG_n (by decide) (simT_test (sim_op rop_lt (simX_e (sim_op rop_ix (simX_e sim_var) (simX_e sim_c_int))) (simX_e sim_c_int))) sim_var))) (simX_e (simN_e (simN_lst (Nat.le_of_ble_eq_true rfl) sim_nil))))) (simT_test (sim_op rop_lt (simX_e sim_var) (simX_e sim_c_int)))) (simS_ret sim_c_bl) simS_next)
      (simS_seq (simS_if (simT_test (sim_op rop_ne (simX_e (sim_call0 rfl (sim_cons (simX_e (sim_callD (fun _ => (.cons .non .nil)) rfl rfl (sim_cons (simX_e sim_var) (sim_cons (simX_e sim_var) sim_nil)))) (sim_cons (simX_e (sim_call0 rfl (sim_cons (simX_e sim_var) (sim_cons (simX_e sim_var) sim_nil)))) sim_nil)))) (simX_e sim_var))) (simS_ret sim_c_bl) simS_next)
      (simS_if (simT_not (simT_tru (simX_e (sim_call0 rfl (sim_cons (simX_e sim_var) (sim_cons (simX_e sim_var) (sim_cons (simX_e sim_var) sim_nil))))))) (simS_ret sim_c_bl) simS_next)))))))))))
      (simS_ret sim_c_bl)))))))))))))))⟩
end
/-! the head -/
abbrev R : PySem.W.OpenRow := PySem.W.OpenLaw.row PySem.Challenge.rw_ledgerproof_k38_whole_values_by_flows
abbrev hk : PySem.W.Hook := He.hookD 4 fa fn
def ob (s : PySem.W.SharedT) : He.AlD := He.obsDG 4 fa fn (HandSHeadRun.getT s)
theorem ob_eq (s : PySem.W.SharedT) : ob s = hk.obs s.abs := He.obsDG_eq (HandSHeadRun.getT_eq s)
def loose : List PySem.Str := "ProofError" :: "NotASum" :: "profile_count" :: "profile_of" :: "belongs" :: "entry_of" :: "terms_of" :: "entry_rows" :: "added" :: "balances" :: "members" :: "sum_value" :: "member_value" :: "value_by" :: "value" :: "group_profiles" :: "groups_in" :: "unit_transactions" :: "weights_of" :: "worth" :: "contribution_row" :: "contributions" :: "profile_apart" :: "flows" :: "_law_tape" :: "_law_draw" :: "_law_same" :: "_law_order" :: "_law_letters" :: "_law_reserved" :: "_law_run" :: "_law_names" :: "_law_sets" :: "_law_leaf" :: "_law_sector" :: "_law_deep" :: "_law_member" :: "_law_some_sector" :: "_law_number" :: "_law_entries" :: "_law_negated" :: "_law_kind" :: "_law_constraint" :: "_law_claim" :: "_law_lists" :: "_law_model" :: "_law_taken" :: "_law_people" :: "_law_crowd" :: "_law_ordered" :: "_law_amount" :: "_law_members" :: "_law_deal" :: "_law_deals" :: "_law_kind_of" :: "_law_posted" :: "_law_value" :: "_law_countered" :: "_law_units" :: "_law_flows" :: "_law_total" :: "_law_one_by_one" :: []
theorem run (w : World) : HandSHeadRun.RunEq R (PySem.W.view R.prog [69]) hk ob 4600 loose w := by
  intro os
  kernel_rfl
theorem facts {P : Program} {w : World} {K : Fg} {h : Heap} {mg : Str → Option Value} {f : Addr} (X : K.In h) (G : h.Ns mainGlobals mg) (hfa : mg ("law" : Str) = some (.ref f)) (c : He.SaysD fa fn K) :
    ∃ fd : FuncData, (∀ (s : Shared) (v : Value), PySem.BindsTo s fd ⟨[v], []⟩ [("script", v)]) ∧ ∀ base : Heap, K.In base → base.Ns mainGlobals mg → L2.FnOk P w K mg base L2.CX0 48 f fd ["script"] (sp0 K 1 (@m_law (hsI P w))) := by
  obtain ⟨fd, F⟩ := c.def_ 60 (d := d_law) rfl
  have e := hfa.symm.trans (He.glo_ok X G (c.fact 60 (f := .glo "law") rfl))
  cases e
  have b := L2.FunD.bindsA (ps := ["script"]) F fun _ _ _ _ _ _ us hl => match us, hl with | [_], _ => rfl
  exact ⟨fd, fun s v => b s [v] rfl, fun base X' G' => fl_law F X' G' c⟩
end Mir
open PySem PySem.W PySem.Calls PyProof.Rows in
theorem PySem.Challenge.cw_ledgerproof_k38_whole_values_by_flows_holds : PySem.Challenge.rw_ledgerproof_k38_whole_values_by_flows.Holds := by
  w_on; o_law
  refine HandSHeadRun.head_any (r := OpenLaw.row PySem.Challenge.rw_ledgerproof_k38_whole_values_by_flows) (q := view (OpenLaw.row PySem.Challenge.rw_ledgerproof_k38_whole_values_by_flows).prog [69]) (H := Mir.hk) (ob := Mir.ob) (M := 4600) (loose := Mir.loose) (d := HandSHeadRun.topDef (OpenLaw.row PySem.Challenge.rw_ledgerproof_k38_whole_values_by_flows).prog 69) (kwd := []) Mir.ob_eq
    (by kernel_rfl) (fun s => by kernel_rfl) Mir.run (by kernel_rfl) (by kernel_rfl) (by kernel_rfl) (by rfl) (by first | assumption | decide +kernel) (by decide +kernel) ⟨rfl, rfl, rfl, rfl, rfl, by decide +kernel⟩ ?hw ?hc
  case hw => w_witness2
  case hc =>
    refine L2.walk_ofE (l := PySem.Challenge.rw_ledgerproof_k38_whole_values_by_flows) (n := 63) (k := 48) (x := "script") (CX := L2.CX0) rfl (by decide) (by kernel_rfl) ⟨rfl, by decide, by decide⟩ ?F (fun _ _ _ _ z => z)
    intro w mg fa h Y G hmg0
    obtain ⟨K, KX, c⟩ := Y
    have hmg : mg ("law" : PySem.Str) = some (.ref fa) := by
      have e : (HandSHeadRun.topDef (OpenLaw.row PySem.Challenge.rw_ledgerproof_k38_whole_values_by_flows).prog 69).name = ("law" : PySem.Str) := by kernel_rfl
      rw [← e]
      exact hmg0
    obtain ⟨fd, hb, hF⟩ := Mir.facts (P := (PySem.Challenge.rw_ledgerproof_k38_whole_values_by_flows).prog) (w := w) KX G hmg c
    exact ⟨K, fd, Mir.sp0 K 1 (@Mir.m_law (Mir.hsI _ w)), KX, hb, fun H a ns hl _ hS => Mir.law_end hS (@Mir.pure_law (Mir.hsI _ w) ns hl), hF⟩
