import PyProof.Rows.All
import Wide.All
import OpenK.AllK
import Wide.FinOn
import PyProof.SeqIndex
import PyProof.NeKinds
import PyProof.FactsAll.tuple_2
import PyProof.FactsAll.tuple_3
import HandS.ForMost
import HandS.ForExc
import HandS.Wide
import HandS.Conv
import HandS.Zip
import HandS.Deep
import HandS.IsInst
import HandS.TupAny
import HandS.TupMul
import HandS.Style
import HandS.Rev
import HandS.SetFor
import HandS.SortInts
import PySem.Challenge.RW_askedpairs_k64_heaviest_of_anything
set_option maxHeartbeats 8000000
set_option Elab.async false
set_option linter.all false
set_option maxRecDepth 100000
/-! DL0: more rules of the hand layer's kind: tuples known to be plain; their methods; slices backwards. -/
namespace DL
open PySem PySem.Spec PyProof.Rows L2

/-- nothing hangs on it -/
def Bare (o : Obj) : Prop := o.dict = none ∧ o.slots = #[]
/-- a new plain tuple is told -/
def TN (xs : List V) (H : Hp) (Q : VK) : Prop := ∀ p ob, H p = none → ob.cls = .type "tuple" → Bare ob → Q (.ref p) (upd H p (.frz ob (.tup xs)))
section
variable {X : Cx} {pins : List (Addr × Obj)} {σ : L2.St} {H : Hp} {s : Shared}
theorem tn_end (I : Inv X pins σ H s) {xs : List V} {its : List Value} {Q : VK} (r : Vals xs its) (z : xs.length ≤ sizeLine) (q : TN xs H Q) :
    EP X pins σ Q (.ref s.heap.objs.size) { s with heap := s.heap.push { cls := .type "tuple", data := .seq its.toArray } } := by
  have J := I.laid (t' := s.toks) (o := .frz { cls := .type "tuple", data := .seq its.toArray } (.tup xs)) (fun b ob e => Heap.get?_push_of_some { cls := .type "tuple", data := .seq its.toArray } e) (Nat.le_refl s.heap.objs.size)
    ⟨Heap.get?_push_size _ rfl, ⟨z, its, r, IsTup.new s.heap its.toArray⟩⟩
  exact ⟨.ref _, _, J, rfl, q _ _ (I.hok.fresh (Nat.le_refl _)) rfl ⟨rfl, rfl⟩⟩
def tTupF (t : TA) : TE := fun σ H Q => t σ H fun xs H1 => xs.length ≤ sizeLine ∧ TN xs H1 Q
theorem pe_tupF {es : List Expr} {k : Nat} {pos : Pos} {t : TA} (h : PA X es t) : PE X (.Tuple es k pos) (tTupF t) := by
  constructor
  intro pins s σ H Q I q
  apply wpAny_Tuple_spliced
  refine thn (h.run pos pins s σ H _ I q) ?_
  rintro us s1 ⟨xs, H1, J, r, z, q1⟩
  exact ⟨r.length ▸ z, tn_end J r z q1⟩
/-- t + u -/
def rCatF (K : PySem.W.Frag) : R2 := fun x y H Q => ∃ a b xs ys, x = .ref a ∧ y = .ref b ∧ SqT K H a xs ∧ SqT K H b ys ∧ xs.length + ys.length ≤ sizeLine ∧
  (xs = [] → Q (.ref b) H) ∧ (xs ≠ [] → ys = [] → Q (.ref a) H) ∧ (xs ≠ [] → ys ≠ [] → TN (xs ++ ys) H Q)
theorem op_catF : OpR X (binaryOp .Add) (rCatF X.K) := by
  intro pins s σ H x y v u Q I rx ry ⟨a, b, xs, ys, ex, ey, ta, tb, z, q0, q1, q2⟩
  subst ex ey
  cases rx; cases ry
  have ⟨its, r1, p1, _⟩ := I.tuple ta
  have ⟨its2, r2, p2, _⟩ := I.tuple tb
  cases its with
  | nil => cases r1; exact cat_tup0 p1 p2 ⟨.ref _, H, I, rfl, q0 rfl⟩
  | cons w ws =>
    have nx : xs ≠ [] := fun e => by subst e; cases r1
    refine HT.cat_tup p1 p2 (by simp) (fun e => ⟨.ref _, H, I, rfl, q1 nx (r2.nil_iff.mp e)⟩) (fun e => ?_) (by rw [← r1.length, ← r2.length]; exact z)
    exact tn_end I (r1.append r2) (by rw [List.length_append]; exact z) (q2 nx fun w => e (r2.nil_iff.mpr w))
/-- t[lo:hi] -/
def rSlF (K : PySem.W.Frag) : V → Option Int → Option Int → Hp → VK → Prop := fun x lo hi H Q => ∃ a xs, x = .ref a ∧ SqT K H a xs ∧
  (HT.sIx xs.length 0 lo = 0 ∧ HT.sIx xs.length xs.length hi = xs.length → Q (.ref a) H) ∧ (¬ (HT.sIx xs.length 0 lo = 0 ∧ HT.sIx xs.length xs.length hi = xs.length) → TN (cutV xs lo hi) H Q)
theorem sl_tupF : SlR X (rSlF X.K) := by
  intro pins s σ H x v vl vu lo hi sl Q I rx hs pl pu ⟨a, xs, ex, hx, q1, q2⟩
  subst ex
  cases rx
  have ⟨its, r, ht, hz⟩ := I.tuple hx
  have hn : its.toArray.size = xs.length := by rw [List.size_toArray, r.length]
  refine ⟨_, _, PyProof.Rows.slot_tuple_getitem.lookup, ht.typeIs, ?_⟩
  by_cases hw : HT.sIx xs.length 0 lo = 0 ∧ HT.sIx xs.length xs.length hi = xs.length
  · exact getItem_tuple_whole ht hs pl pu (hn ▸ hw) ⟨.ref _, H, I, rfl, q1 hw⟩
  · refine HT.getItem_tuple_cut ht hs pl pu (by rw [hn]; exact hw) ?_ (by rw [hn]; exact hz)
    rw [hn]
    have rr : Vals (cutV xs lo hi) ((its.drop (HT.sIx xs.length 0 lo)).take (HT.sIx xs.length xs.length hi - HT.sIx xs.length 0 lo)) := (r.drop _).take _
    exact tn_end I rr (Nat.le_trans (cutV_length xs lo hi) hz) (q2 hw)
/-- tuple(xs) -/
def rTupF (K : PySem.W.Frag) : List V → Hp → VK → Prop := fun xs H Q => ∃ p ys, xs = [.ref p] ∧ ((SqL K H p ys ∧ TN ys H Q) ∨ (SqT K H p ys ∧ Q (.ref p) H))
theorem call_tupF : CallR X (.type "tuple") (rTupF X.K) := by
  intro pins s σ H xs us Q I r ⟨p, ys, e, h⟩
  subst e
  obtain ⟨u, rfl, rx⟩ := vals1 r
  cases rx
  cases h with
  | inl h =>
    have ⟨its, r', pl, hz⟩ := I.list h.1
    refine call_tuple_list pl.isList (fun h' kp => ?_) (by rw [List.size_toArray, ← r'.length]; exact hz)
    exact tn_end (s := { s with heap := h' }) (I.kept (t' := s.toks) kp) r' hz h.2
  | inr h =>
    have ⟨its, r', pl, _⟩ := I.tuple h.1
    exact call_tuple_same pl ⟨.ref _, H, I, rfl, h.2⟩
/-- t * k, 2 ≤ k -/
def rRepF (K : PySem.W.Frag) : R2 := fun x y H Q => ∃ l k xs, x = .ref l ∧ y = .int k ∧ SqT K H l xs ∧ xs ≠ [] ∧ 2 ≤ k ∧ k ≤ 1000 ∧ xs.length ≤ 1000 ∧ TN (List.replicate k.toNat xs).flatten H Q
theorem op_repF : OpR X (binaryOp .Mult) (rRepF X.K) := by
  intro pins s σ H x y v u Q I rx ry ⟨l, k, xs, ex, ey, hT, ne, k2, k3, z, q⟩
  subst ex ey
  cases rx
  obtain ⟨t, rfl⟩ := ry
  obtain ⟨its, r, ⟨⟨cls, dd, data, sl⟩, ho, hc, n, hd⟩, _⟩ := I.tuple hT
  simp only at hc hd
  subst hc hd
  have hle : its.length = xs.length := r.length.symm
  have hi : its.toArray.isEmpty = false := by
    cases its with
    | cons a b => rfl
    | nil => cases r; exact absurd rfl ne
  have hm : ((its.toArray.size : Nat) : Int) * k ≤ 1000000 := by
    rw [List.size_toArray, hle]
    have : (xs.length : Int) * k ≤ 1000 * 1000 := Int.mul_le_mul (by omega) k3 (by omega) (by omega)
    omega
  have hm2 : k.toNat * xs.length ≤ 1000 * 1000 := Nat.mul_le_mul (by omega) z
  have fl : ∀ {α : Type} (ys : List α), ys.length = xs.length → (List.replicate k.toNat ys).flatten.length ≤ sizeLine := fun ys e => by
    rw [PyProof.Rows.lm_len_rep_flat, e, sizeLine_eq]; omega
  have c0 : (decide (k < -(2 ^ 63)) || decide (k ≥ 2 ^ 63)) = false := by simp; omega
  have c1 : (its.toArray.isEmpty || k == 1) = false := by rw [hi]; simp; omega
  have c2 : (decide (k ≤ 0) || its.toArray.isEmpty) = false := by rw [hi]; simp; omega
  have c4 : Builtin.Tuple.tupleTooMany (((its.toArray.size : Nat) : Int) * k) = false := by
    unfold Builtin.Tuple.tupleTooMany
    rw [sizeLine_eq]
    apply decide_eq_false; omega
  have g := tuple_mulW l its.toArray n dd sl k t c0 c1 c2 (by omega) c4 (by rw [size_rep, List.size_toArray]; exact fl its hle)
  have e := tn_end I (r.rep k.toNat) (fl xs rfl) q
  rw [← size_rep] at e
  have g2 := int_rmul_tuple k t l its.toArray n dd sl
  exact wpAny_binaryOp_repeat_ref (T := "tuple") (U := "int") (by decide) ⟨_, ho, rfl⟩ (fun s' => typeIs_int s' k t) noFill_tuple_mul F.fills_int_mul F.slot_int_rmul repeat_tuple F.slot_int_index.lookup
    (call_meets F.slot_int_rmul (typeIs_int s k t) F.entry_int_rmul (F.args_int_rmul_2 _ _) g2 ⟨ho, rfl, ⟨_, ho, rfl⟩, call_meets F.slot_tuple_mul ⟨_, ho, rfl⟩ F.entry_tuple_mul (F.args_tuple_mul_2 _ _) g ⟨ho, e⟩⟩)
/-! ### methods of plain tuples -/
/-- a plain tuple -/
def PlT (K : PySem.W.Frag) (H : Hp) (p : Addr) : Prop := (∃ o u, H p = some (.frz o u) ∧ o.cls = .type "tuple" ∧ Bare o) ∨ ∃ o, K.lookup p = some o ∧ o.cls = .type "tuple" ∧ Bare o
theorem PlT.got (I : Inv X pins σ H s) {p : Addr} (h : PlT X.K H p) : ∃ o, s.heap.get? p = some o ∧ o.cls = .type "tuple" ∧ Bare o := by
  rcases h with ⟨o, u, e, c, d⟩ | ⟨o, e, c, d⟩
  · exact ⟨o, (I.hok p _ e).1, c, d⟩
  · exact ⟨o, I.kIn p o e, c, d⟩
def tBT (K : PySem.W.Frag) (r : V → List V → Hp → VK → Prop) (to : TE) (t : TA) : TE := fun σ H Q => to σ H fun x H1 => (∃ p, x = .ref p ∧ PlT K H1 p) ∧ t σ H1 fun xs H2 => r x xs H2 Q
theorem pe_bt {o e : Expr} {es : List Expr} {to : TE} {t : TA} {name : Str} {ap cp : Pos} {id : String} {r : V → List V → Hp → VK → Prop} (pa : PlainAttrs "tuple") (slot : Slot "tuple" name id) (ty : typeOf (.builtin id) = pure (.type "method_descriptor"))
    (hm : MtR X id r) (ho : PE X o to) (ha : PA X (e :: es) t) (hb : attributeBase o name X.env (eval o X.env) = eval o X.env)
    (few : ((backTo cp (starEach (e :: es) X.env)).all (fun x => !x.1) && (backToKw cp (keywordEach [] X.env)).all (fun x => x.1.isSome)
      && decide ((e :: es).length + ([] : List Keyword).length + (if ([] : List Keyword).isEmpty then 0 else 1) < 30)) = true)
    (hl : (ap.endLine == cp.line) = true) (hs : starEach (e :: es) X.env = (false, eval e X.env) :: starEach es X.env) (hp : (backTo cp (starEach es X.env)).any (·.1) = false) :
    PE X (.Call (.Attribute o name ap) (e :: es) [] cp) (tBT X.K r to t) := by
  constructor
  intro pins s σ H Q I h
  apply wpAny_Call_method_late hb few hl rfl
  refine thn (ho.run pins s σ H _ I h) ?_
  rintro v s1 ⟨x, H1, J, rx, ⟨p, ex, pt⟩, q⟩
  subst ex
  have rv := rx
  cases rv
  have ⟨ob, e1, e2, e3⟩ := pt.got J
  have hA := ha.run cp pins s1 σ H1 _ J q
  rw [hs] at hA
  refine ⟨"tuple", id, pa, slot, ty, ⟨ob, e1, e2⟩, fun a ea => ?_, ?_⟩
  · cases ea; exact ⟨ob, e1, e3.1⟩
  · rw [hs]
    refine Calls.callWith_builtin (by show (false || List.any (backTo cp _) _) = false; rw [hp]; rfl) (Calls.evalArgs_plain (thn hA ?_))
    rintro us s2 ⟨vs, H2, J2, r2, q2⟩
    exact hm pins s2 σ H2 _ vs _ us Q J2 rx r2 q2
theorem eq_ints {k : Int} {t : Tok} {A : Around} {s : Shared} {us : List Value} {ns : List Int} (h : IntsAre us ns) : ∀ y ∈ us, SeqAt.EqAt A s y (.int k t) (eqk k y) := fun y hy => (eqk_gives h y hy).at _ _
/-- t.count(k), ints -/
def rCntT (K : PySem.W.Frag) : V → List V → Hp → VK → Prop := fun x xs H Q => ∃ (p : Addr) (ns : List Int) (k : Int), x = .ref p ∧ xs = [.int k] ∧ SqT K H p (ns.map V.int) ∧ Q (.int (ns.count k : Nat)) H
theorem mt_tcount : MtR X "tuple.count" (rCntT X.K) := by
  intro pins s σ H x xs v us Q I rx rxs ⟨p, ns, k, ex, exs, hs, q⟩
  subst ex exs
  cases rx
  obtain ⟨u, rfl, t, rfl⟩ := rxs.one
  obtain ⟨its, rv, ⟨⟨cls, dd, data, sl⟩, ho, hc, n, hd⟩, _⟩ := I.tuple hs
  simp only at hc hd
  subst hc hd
  have hi := ints_of_vals rv
  have g := SeqAt.tuple_countAt p its.toArray n dd sl (.int k t) (eqk k)
  refine call_meets PySem.F.slot_tuple_count ⟨_, ho, rfl⟩ PySem.F.entry_tuple_count (PySem.F.args_tuple_count_2 _ _) g ⟨ho, fun y hy => eq_ints hi y (by simpa using hy), ?_⟩
  refine ⟨.int (ns.count k : Nat), H, I.tok _, ⟨s.toks, ?_⟩, q⟩
  rw [← eqk_count hi]
/-- t.index(k), ints -/
def rIdxT (K : PySem.W.Frag) : V → List V → Hp → VK → Prop := fun x xs H Q => ∃ (p : Addr) (ns : List Int) (k : Int) (j : Nat), x = .ref p ∧ xs = [.int k] ∧ SqT K H p (ns.map V.int) ∧ ns[j]? = some k ∧ (∀ m, m < j → ns[m]? ≠ some k) ∧ Q (.int (j : Nat)) H
theorem mt_tindex : MtR X "tuple.index" (rIdxT X.K) := by
  intro pins s σ H x xs v us Q I rx rxs ⟨p, ns, k, j, ex, exs, hs, hj, hno, q⟩
  subst ex exs
  cases rx
  obtain ⟨u, rfl, t, rfl⟩ := rxs.one
  obtain ⟨its, rv, ⟨⟨cls, dd, data, sl⟩, ho, hc, n, hd⟩, _⟩ := I.tuple hs
  simp only at hc hd
  subst hc hd
  have hi := ints_of_vals rv
  have hlen : its.toArray.size = ns.length := by rw [List.size_toArray, ← rv.length, List.length_map]
  have hjl : j < its.toArray.size := by rw [hlen]; exact (List.getElem?_eq_some_iff.mp hj).1
  have at_ : ∀ (m : Nat) (h : m < its.toArray.size), eqk k its.toArray[m] = decide (ns[m]? = some k) := fun m h => by
    have h' : m < ns.length := hlen ▸ h
    obtain ⟨tm, e⟩ := hi.get m _ (List.getElem?_eq_getElem h')
    have e1 : its.toArray[m] = .int ns[m] tm := by simpa using (List.getElem?_eq_some_iff.mp e).2
    rw [e1, List.getElem?_eq_getElem h']
    show (ns[m] == k) = _
    by_cases hk : ns[m] = k <;> simp [hk]
  have g := SeqAt.tuple_index2_found p its.toArray n dd sl (.int k t) (fun m => match its.toArray[m]? with | some y => eqk k y | none => false) j hjl (Nat.zero_le _) hjl
    (by simp only [Array.getElem?_eq_getElem hjl]; rw [at_ j hjl]; exact decide_eq_true hj) (fun m hm _ hmj => by simp only [Array.getElem?_eq_getElem hm]; rw [at_ m hm]; exact decide_eq_false (hno m hmj))
  refine call_meets PySem.F.slot_tuple_index ⟨_, ho, rfl⟩ PySem.F.entry_tuple_index (PySem.F.args_tuple_index_2 _ _) g ⟨ho, fun m hm => ?_, ⟨.int (j : Nat), H, I.tok _, ⟨s.toks, rfl⟩, q⟩⟩
  simp only [Array.getElem?_eq_getElem hm]
  exact eq_ints hi _ (by simpa using Array.getElem_mem hm)
end
end DL

/-! DL1: more low rules: backwards, sets' lengths, lists unlike in length, sums and extends of tuples. -/
namespace DL
open PySem PySem.Spec PyProof.Rows L2
section
variable {prog : Program} {w : World} {A : Around} {E : Value → Shared → Prop} {s : Shared}
theorem applied_rev {sl : Addr} {vs : Value} {n : Nat} {Q : Int × Int × Nat → Shared → Prop} (hs : s.heap.IsSliceOf sl .none .none vs) (ps : IsPart vs (some (-1)))
    (h : Q ((n : Int) - 1, -1, n) s) : wpAny (model prog w) A (Builtin.Slice.sliceApplied (.ref sl) (pure (n : Int))) Q E s := by
  have ⟨os, hos, hcs, hds⟩ := id hs
  unfold Builtin.Slice.sliceApplied Builtin.Slice.sliceFields
  refine wpAny_bind (wpAny_bind (wpAny_field hos hds (x := .none) rfl ?_))
  refine wpAny_bind (wpAny_field hos hds (x := .none) rfl ?_)
  refine wpAny_bind (wpAny_field hos hds (x := vs) rfl (wpAny_pure ?_))
  refine wpAny_bind (HT.slicePart_ ps ?_)
  show wpAny _ _ (if ((-1 : Int) == 0) = true then _ else _) _ _ s
  rw [if_neg (by decide)]
  refine wpAny_bind (HT.slicePart_ .none (wpAny_bind (HT.slicePart_ .none (wpAny_bind (wpAny_pure ?_)))))
  have e : Builtin.Slice.slicePlaces ((n : Int) - 1) (-1) (-1) = n := by
    unfold Builtin.Slice.slicePlaces
    rw [if_neg (by decide)]
    by_cases hn : n = 0
    · subst hn; rfl
    · rw [if_pos (by omega)]
      show (((n : Int) - 1 - -1 - 1) / 1 + 1).toNat = n
      rw [Int.ediv_one]; omega
  show wpAny _ _ (pure ((n : Int) - 1, (-1 : Int), Builtin.Slice.slicePlaces ((n : Int) - 1) (-1) (-1))) _ _ s
  rw [e]
  exact wpAny_pure h
theorem pick_back {α : Type} (xs : List α) : ((List.range xs.length).filterMap fun (k : Nat) => xs.toArray[(((xs.length : Nat) : Int) - 1 + (k : Int) * -1).toNat]?) = xs.reverse := by
  have e : ∀ m, m ≤ xs.length → ((List.range m).filterMap fun (k : Nat) => xs.toArray[(((xs.length : Nat) : Int) - 1 + (k : Int) * -1).toNat]?) = (xs.drop (xs.length - m)).reverse := by
    intro m
    induction m with
    | zero => intro _; simp
    | succ m ih =>
      intro h
      rw [List.range_succ, List.filterMap_append, ih (by omega)]
      have e1 : (((xs.length : Nat) : Int) - 1 + (m : Int) * -1).toNat = xs.length - (m + 1) := by omega
      have e2 : xs.length - m = xs.length - (m + 1) + 1 := by omega
      have hl : xs.length - (m + 1) < xs.length := by omega
      rw [e2, List.drop_eq_getElem_cons hl, List.reverse_cons]
      congr 1
      show (match xs.toArray[(((xs.length : Nat) : Int) - 1 + (m : Int) * -1).toNat]? with | none => [] | some b => [b]) = _
      rw [e1]
      simp [hl]
  have := e xs.length (Nat.le_refl _)
  rwa [Nat.sub_self, List.drop_zero] at this
theorem getItem_tupBack {t sl : Addr} {its : List Value} {vs : Value} {Q : Value → Shared → Prop} (ht : IsTup s.heap t its.toArray) (hs : s.heap.IsSliceOf sl .none .none vs) (ps : IsPart vs (some (-1))) (hz : its.length ≤ sizeLine)
    (h : Q (.ref s.heap.objs.size) { s with heap := s.heap.push { cls := .type "tuple", data := .seq its.reverse.toArray } }) : wpAny (model prog w) A (getItem (.ref t) (.ref sl)) Q E s := by
  have ⟨os, hos, hcs, hds⟩ := id hs
  have hTs : s.TypeIs (.ref sl) "slice" := ⟨os, hos, hcs⟩
  have hn : its.toArray.size = its.length := List.size_toArray
  unfold getItem
  try with_reducible refine wpAny_holding ?_
  first | refine wpAny_bind (wpAny_pure ?_) | skip
  refine wpAny_bind (wpAny_sequenceKey ht.typeIs (by decide) ?_)
  refine wpAny_bind (wpAny_callSpecial?_slot (name := Str.ofString "__getitem__") ht.typeIs PyProof.Rows.slot_tuple_getitem (wpAny_call_entry PyProof.Rows.slot_tuple_getitem ht.typeIs entry_tuple_getitem ?_ (args_tuple_getitem _ _)))
  show wpAny _ _ (Builtin.Tuple.tupleItemsOf (.ref t) >>= _) _ _ s
  refine wpAny_bind (tupleItemsOf_ ht (wpAny_bind (wpAny_typeOf hTs ?_)))
  rw [if_pos (by decide)]
  refine wpAny_bind (applied_rev hs ps ?_)
  rw [hn]
  show wpAny _ _ (if (((its.length : Int) - 1) == 0 && (-1 : Int) == 1 && its.length == its.length) = true then _ else _) _ _ s
  rw [if_neg (by simp), pick_back]
  have hsz : sizeOk (.seq its.reverse.toArray) := by show its.reverse.toArray.size ≤ sizeLine; simpa using hz
  first
    | exact wpAny_bind (m := Builtin.Tuple.tupleExact _) (wpAny_newObj_type (wpAny_pure ⟨_, rfl, wpAny_pure h⟩) hsz)
    | exact wpAny_bind (m := Builtin.Tuple.tupleExact _) (wpAny_newObj_type (wpAny_bind (wpAny_pure (wpAny_pure ⟨_, rfl, wpAny_pure h⟩))) hsz)
    | exact wpAny_bind (wpAny_bind (m := Builtin.Tuple.tupleExact _) (wpAny_newObj_type (wpAny_pure (wpAny_pure ⟨_, rfl, wpAny_pure h⟩)) hsz))
    | exact wpAny_bind (wpAny_bind (m := Builtin.Tuple.tupleExact _) (wpAny_newObj_type (wpAny_pure ⟨_, rfl, wpAny_pure h⟩) hsz))
end
section
variable {X : Cx}
/-- t[::-1] -/
def tRevF (K : PySem.W.Frag) (te : TE) : TE := fun σ H Q => te σ H fun x H1 => ∃ a xs, x = .ref a ∧ SqT K H1 a xs ∧ TN xs.reverse H1 Q
theorem pe_revF {e : Expr} {te : TE} {k : Nat} {p1 p2 p3 pos : Pos} (he : PE X e te) : PE X (.Subscript e (.Slice none none (some (.UnaryOp .USub (.Constant (.int 1) k p1) p2)) p3) pos) (tRevF X.K te) := by
  constructor
  intro pins s σ H Q I h
  apply Subscript_
  refine thn (he.run pins s σ H _ I h) ?_
  rintro v s1 ⟨x, H1, I1, r1, a, xs, ex, hx, q⟩
  subst ex
  cases r1
  have hst : PO X (some (.UnaryOp .USub (.Constant (.int 1) k p1) p2)) (tPart (tUn (rU fun i => .int (-i)) (tC (.int 1)))) := po_some (pe_un un_neg pe_int)
  apply wpAny_Slice
  refine thn (po_none.run pins s1 σ H1 (fun o H2 => o = none ∧ H2 = H1) I1 ⟨rfl, rfl⟩) ?_
  rintro vl s2 ⟨l, H2, I2, pl, el, e2⟩
  subst el e2
  refine thn (po_none.run pins s2 σ H2 (fun o H3 => o = none ∧ H3 = H2) I2 ⟨rfl, rfl⟩) ?_
  rintro vu s3 ⟨u, H3, I3, pu, eu, e3⟩
  subst eu e3
  refine thn (hst.run pins s3 σ H3 (fun o H4 => o = some (-1) ∧ H4 = H3) I3 ⟨1, rfl, -1, rfl, rfl, rfl⟩) ?_
  rintro vs s4 ⟨o, H4, I4, ps, eo, e4⟩
  subst eo e4
  cases pl; cases pu
  have J : Inv X pins σ H4 { s4 with heap := s4.heap.push { cls := .type "slice", data := .fields #[.none, .none, vs] } } := I4.kept (t' := s4.toks) fun b ob q => Heap.get?_push_of_some _ q
  have ⟨its, r, ht, hz⟩ := J.tuple hx
  refine tail_any (ops := [.ref a, .ref s4.heap.objs.size]) ht.typeIs PyProof.Rows.slot_tuple_getitem.lookup ?_ (by with_unfolding_all rfl)
  refine getItem_tupBack ht (Heap.IsSliceOf.new _ _ _ vs) ps (by rw [← r.length]; exact hz) ?_
  exact tn_end J r.reverse (by rw [List.length_reverse]; exact hz) q
/-! ### how many unlike ints -/
def DistN (ns : List Int) (n : Nat) : Prop := ∃ ds : List Int, ds.Nodup ∧ (∀ k, k ∈ ds ↔ k ∈ ns) ∧ ds.length = n
theorem nodup_sub_len : ∀ (l m : List Int), l.Nodup → (∀ x ∈ l, x ∈ m) → l.length ≤ m.length
  | [], _, _, _ => Nat.zero_le _
  | a :: l, m, nd, h => by
    have nd' := List.nodup_cons.mp nd
    have := nodup_sub_len l (m.erase a) nd'.2 fun x hx => (List.mem_erase_of_ne (fun e : x = a => nd'.1 (by rw [← e]; exact hx))).mpr (h x (List.mem_cons_of_mem _ hx))
    have ha := h a List.mem_cons_self
    rw [List.length_erase_of_mem ha] at this
    have := List.length_pos_of_mem ha
    rw [List.length_cons]; omega
theorem DistN.le {ns : List Int} {n : Nat} (h : DistN ns n) : n ≤ ns.length := by
  have ⟨ds, nd, hm, e⟩ := h
  exact e ▸ nodup_sub_len ds ns nd fun x hx => (hm x).mp hx
theorem DistN.of_nodup {ns : List Int} {n : Nat} (h : DistN ns n) (nd : ns.Nodup) : n = ns.length := by
  have ⟨ds, nd2, hm, e⟩ := h
  have := nodup_sub_len ns ds nd fun x hx => (hm x).mpr hx
  have := h.le
  omega
theorem DistN.nodup : ∀ {ns : List Int} {n : Nat}, DistN ns n → n = ns.length → ns.Nodup
  | [], _, _, _ => List.nodup_nil
  | a :: l, n, h, e => by
    have ⟨ds, nd, hm, e2⟩ := h
    by_cases ha : a ∈ l
    · have := nodup_sub_len ds l nd fun x hx => by
        rcases List.mem_cons.mp ((hm x).mp hx) with e3 | h3
        · exact e3 ▸ ha
        · exact h3
      rw [List.length_cons] at e; omega
    · refine List.nodup_cons.mpr ⟨ha, DistN.nodup (n := l.length) ⟨ds.erase a, nd.erase a, fun k => ?_, ?_⟩ rfl⟩
      · rw [nd.mem_erase_iff, hm k, List.mem_cons]
        exact ⟨fun ⟨x, y⟩ => y.resolve_left x, fun x => ⟨fun e3 => ha (e3 ▸ x), .inr x⟩⟩
      · rw [List.length_erase_of_mem ((hm a).mpr List.mem_cons_self), e2, e, List.length_cons]; rfl
theorem nodup_step {l : List Int} {v : Int} (h : l.Nodup) : (PyProof.Rows.step_dedup l v).Nodup := by
  unfold PyProof.Rows.step_dedup
  split
  · exact h
  · rename_i hn
    refine List.nodup_append.mpr ⟨h, by simp, fun a ha b hb e => hn ?_⟩
    rw [List.mem_singleton] at hb
    subst hb e
    exact List.any_eq_true.mpr ⟨_, ha, beq_self_eq_true _⟩
theorem nodup_met (f : Nat → Int) : ∀ i, (PyProof.Rows.firstMet f i).Nodup
  | 0 => List.nodup_nil
  | i + 1 => by rw [PyProof.Rows.firstMet_succ]; exact nodup_step (nodup_met f i)
theorem dist_met (ns : List Int) : DistN ns (PyProof.Rows.firstMet (fun i => ns.getD i 0) ns.length).length := by
  refine ⟨_, nodup_met _ _, fun k => ?_, rfl⟩
  have e := PyProof.Rows.firstMet_any (fun i => ns.getD i 0) ns.length k
  have e2 : (List.range ns.length).map (fun i => ns.getD i 0) = ns := by
    apply List.ext_getElem (by simp)
    intro i h1 h2
    simp [List.getD_eq_getElem?_getD, h2]
  rw [e2] at e
  have key : ∀ l : List Int, (l.any (· == k)) = true ↔ k ∈ l := fun l => by simp
  rw [← key, ← key, e]
/-- len(set(x)), x a list or a tuple of ints -/
def tLenSetD (K : PySem.W.Frag) (ta : TE) : TE := fun σ H Q => ta σ H fun x H1 => ∃ (l : Addr) (ns : List Int), x = .ref l ∧ (SqL K H1 l (ns.map V.int) ∨ SqT K H1 l (ns.map V.int)) ∧ ns.length ≤ 4000 ∧ ∀ n, DistN ns n → Q (.int (n : Nat)) H1
theorem pe_lenSetD {a : Expr} {ta : TE} {p p2 q pos : Pos} (hg : Gl X "len") (hm : X.mg "len" = none) (hg2 : Gl X "set") (hm2 : X.mg "set" = none) (ha : PE X a ta) (hc : X.calm = true)
    (na : starEach [a] X.env = (false, eval a X.env) :: starEach [] X.env) : PE X (.Call (.Name "len" p) [.Call (.Name "set" p2) [a] [] q] [] pos) (tLenSetD X.K ta) := by
  constructor
  intro pins s σ H Q I h
  apply Call_ (ld_blt I hg hm boot_len ?_)
  refine PyProof.Rows.callWith_builtin1 (PyProof.Rows.args_cons ?_ rfl) rfl rfl
  apply Call_ (ld_blt I hg2 hm2 boot_set ?_)
  refine PyProof.Rows.callWith_type1 (PyProof.Rows.args_cons (thn (ha.run pins s σ H _ I h) ?_) na) na rfl
  rintro v s1 ⟨x, H1, J, r1, l, ns, ex, hq, z, q1⟩
  subst ex
  cases r1
  have fin : ∀ (h' : Heap) (tk n : Nat) (o : Obj) (es : Array (Int × Value)) (ep : Nat) (t : SetTable), DistN ns n → (∀ b o, s1.heap.get? b = some o → h'.get? b = some o) → h'.get? s1.heap.objs.size = some o → o.ExactSet → o.data = .set es ep t → t.fits es.size = true → es.size = n →
      wpAny (model X.prog X.w) X.A (spliced (backTo pos (starEach [] X.env))) (fun vs s₂ => wpAny (model X.prog X.w) X.A (call (.builtin "len") (Value.ref s1.heap.objs.size :: vs)) (EP X pins σ Q) X.xe s₂) X.xe { s1 with heap := h', toks := tk } := by
    intro h' tk n o es ep t hd hk ho hex hdt hf hn
    refine PyProof.Rows.args_nil ?_
    have J2 : Inv X pins σ H1 { s1 with heap := h', toks := tk } := J.kept hk
    have := hd.le
    exact call_len_set ho hex hdt hf (by rw [hn]; omega) ⟨.int (n : Nat), H1, J2.tok _, ⟨_, by rw [hn]⟩, q1 n hd⟩
  refine PyProof.Rows.args_nil ?_
  rcases hq with hq | hq
  · have ⟨its, r, pl, _⟩ := J.list hq
    have hlen : its.toArray.size = ns.length := by rw [List.size_toArray, ← r.length, List.length_map]
    refine call_set_list (J.ok.hd hc) pl.isList (by simpa using RZ.intsAre_vals r) (by rw [hlen]; unfold scanBound; omega) fun h' tk hS hk => ?_
    rw [hlen] at hS
    have ⟨o, es, ep, t, ho, hex, hd, _, _, _, hf, hn⟩ := hS
    exact fin h' tk _ o es ep t (dist_met ns) (fun b o e => hk b o (Heap.lt_size e) e) ho hex hd hf hn
  · have ⟨its, r, pl, _⟩ := J.tuple hq
    refine call_set_tupI (w := X.w) ns (J.ok.hd hc) pl (by simpa using RZ.intsAre_vals r) (by unfold scanBound; omega) fun h' tk c hS _ hk => ?_
    have ⟨o, es, ep, t, ho, hex, hd, _, hnd, hS2, _, hf, hn, _⟩ := hS
    refine fin h' tk c o es ep t ⟨_, hnd, fun k => ?_, by rw [List.length_map, Array.length_toList, hn]⟩ hk ho hex hd hf hn
    rw [← hS2 k]; simp
/-! ### lists of unlike lengths -/
def rNeL (K : PySem.W.Frag) : R2 := fun x y H Q => ∃ a b xs ys, x = .ref a ∧ y = .ref b ∧ SqL K H a xs ∧ SqL K H b ys ∧ xs.length ≠ ys.length ∧ Q (.bl true) H
def rEqL (K : PySem.W.Frag) : R2 := fun x y H Q => ∃ a b xs ys, x = .ref a ∧ y = .ref b ∧ SqL K H a xs ∧ SqL K H b ys ∧ xs.length ≠ ys.length ∧ Q (.bl false) H
theorem sizes_ne {xs ys : List V} {its its2 : List Value} (r : Vals xs its) (r2 : Vals ys its2) (h : xs.length ≠ ys.length) : (its.toArray.size != its2.toArray.size) = true := by
  rw [List.size_toArray, List.size_toArray, ← r.length, ← r2.length]; simpa using h
theorem op_neL (hu : X.A.units < cLine) : OpR X (compareOp .NotEq) (rNeL X.K) := by
  intro pins s σ H x y v u Q I rx ry ⟨a, b, xs, ys, ex, ey, t1, t2, hne, q⟩
  subst ex ey
  cases rx; cases ry
  have ⟨its, r, pl, _⟩ := I.list t1
  have ⟨its2, r2, pl2, _⟩ := I.list t2
  exact SeqAt.RcNeAt.lists_lengths pl.isList pl2.isList (sizes_ne r r2 hne) hu X.prog X.w _ _ ⟨.bl true, H, I, rfl, q⟩
theorem op_eqL (hu : X.A.units < cLine) : OpR X (compareOp .Eq) (rEqL X.K) := by
  intro pins s σ H x y v u Q I rx ry ⟨a, b, xs, ys, ex, ey, t1, t2, hne, q⟩
  subst ex ey
  cases rx; cases ry
  have ⟨its, r, pl, _⟩ := I.list t1
  have ⟨its2, r2, pl2, _⟩ := I.list t2
  exact SeqAt.RcAt.lists_lengths pl.isList pl2.isList (sizes_ne r r2 hne) hu X.prog X.w _ _ ⟨.bl false, H, I, rfl, q⟩
/-! ### sum, extend -/
theorem sum_tup {l : Addr} {its : List Value} {ns : List Int} {prog : Program} {w : World} {A : Around} {E : Value → Shared → Prop} {s : Shared} {Q : Value → Shared → Prop} (hh : A.handled = none) (ht : IsTup s.heap l its.toArray) (hi : IntsAre its ns)
    (h : ∀ h' tk t', (∀ b o, s.heap.get? b = some o → h'.get? b = some o) → Q (.int ns.sum t') { s with heap := h', toks := tk }) : wpAny (model prog w) A (call (.builtin "sum") [.ref l]) Q E s := by
  have ⟨xs, e⟩ := hi.allInts.items
  have hn : numsOf (intItems xs).toList = ns := by rw [← e]; exact hi.numsOf
  rw [nums_intItems] at hn
  rw [e] at ht
  have hl : l < s.heap.objs.size := by have ⟨_, q, _⟩ := ht; exact Heap.lt_size q
  have hz : (s.heap.push { cls := .type "tuple_iterator", data := .fields #[.ref l, .int 0 0] }).objs.size = s.heap.objs.size + 1 := Heap.size_push ..
  refine call_sum_walkG (wpAny_pyIter_tuple ht ⟨_, [_, l], [_], _, _, _, numAt xs, rfl, Walks.tuple (A := A.in1) (by simpa using hh) _ l (Nat.ne_of_lt hl) (intItems xs), ⟨⟨_, Heap.get?_push_size _ rfl, rfl, rfl⟩, Heap.IsTuple.push ht _⟩, fun c hc => ?_, fun _ _ => intItems_at, fun h' tk t' hk => ?_⟩)
  · show c < (s.heap.push _).objs.size
    rw [hz]
    rcases List.mem_cons.mp hc with rfl | hc
    · exact Nat.lt_succ_self _
    · rw [List.mem_singleton.mp hc]; exact Nat.lt_succ_of_lt hl
  · have q := h h' tk t' fun b o e => hk b o (fun hm => by have := Heap.lt_size e; rw [List.mem_singleton.mp hm] at this; exact Nat.lt_irrefl _ this) (Heap.get?_push_of_some _ e)
    have e2 : preSum (numAt xs) (intItems xs).size = ns.sum := by
      rw [show (intItems xs).size = xs.size by simp [intItems], preSum_eq, List.take_of_length_le (by simp), hn]
    rw [e2]; exact q
def rSumT (K : PySem.W.Frag) : List V → Hp → VK → Prop := fun vs H Q => ∃ (a : Addr) (ns : List Int), vs = [V.ref a] ∧ SqT K H a (ns.map V.int) ∧ Q (.int ns.sum) H
theorem cr_sumT (hc : X.calm = true) : CallR X (.builtin "sum") (rSumT X.K) := by
  intro pins s σ H vs us Q I r ⟨a, ns, e, hs, q⟩
  subst e
  have ⟨its, rv, hl, _⟩ := I.tuple hs
  rw [Vals.ref1 r]
  exact sum_tup (I.ok.hd hc) hl rv.ints fun h' tk t' hk => ⟨.int _, H, I.kept hk, ⟨_, rfl⟩, q⟩
def rExtT (K : PySem.W.Frag) : V → List V → Hp → VK → Prop := fun x vs H Q => ∃ l b xs zs, x = .ref l ∧ vs = [.ref b] ∧ H l = some (.lst xs) ∧ SqT K H b zs ∧ PlT K H b ∧ xs.length + zs.length ≤ sizeLine ∧ Q .non (upd H l (.lst (xs ++ zs)))
theorem mt_extT : MtM X "list.extend" (rExtT X.K) := by
  intro pins s σ H x vs v us Q I rx rv ⟨l, b, xs, zs, ex, ev, hH, hB, hp, hz, q⟩
  subst ex ev
  cases rx
  obtain ⟨u, rfl, ru⟩ := rv.one
  cases ru
  have ⟨z, its, n, r, hl, e⟩ := I.lstM hH
  obtain ⟨its2, r2, ⟨ob, e2, hc, n2, hd⟩, _⟩ := I.tuple hB
  have ⟨ob2, e3, _, b1, b2⟩ := hp.got I
  rw [e2] at e3
  cases e3
  have e4 : ob = { cls := .type "tuple", dict := none, data := .seq its2.toArray n2, slots := #[] } := by
    cases ob; simp only at hc hd b1 b2; subst hc hd b1 b2; rfl
  subst e4
  have hsz : its.toArray.size + its2.toArray.size ≤ sizeLine := by rw [List.size_toArray, List.size_toArray, ← r2.length]; omega
  have hlong : ¬ (!its.toArray.isEmpty && Builtin.List.listTooLong (its.toArray.size + its2.toArray.size)) = true := by rw [notLongL hsz]; simp
  have g := AutoSeq1.list_extend_list_tuple_0 l its.toArray n b its2.toArray n2 hlong (by omega) (by omega)
  refine call_meets F.slot_list_extend ⟨_, e, rfl⟩ F.entry_list_extend (F.args_list_extend_2 _ _) g ⟨e, e2, ?_⟩
  exact ⟨.non, _, I.lset (its' := its ++ its2) hH e (by simp) (r.append r2) (by rw [List.length_append]; omega), rfl, q⟩
end
end DL

/-! DLa: plain data over the hand layer: values D, the small heap, how they lie in the layer's heap. -/
namespace DL
open PySem PySem.Spec PyProof.Rows L2

inductive D where
  | non | bl (b : Bool) | int (i : Int) | str (x : Str) | ty (n : String)
  | tup (xs : List D) | tw (xs : List D) | fl (xs : List D) | sl (xs : List D) | fd | ref (i : Nat)

inductive DO where
  | lst (xs : List D)
  | ins (c : Str) (fs : List (Str × D))

abbrev DSt := List (Option D)
abbrev DHp := List DO
abbrev DK := D → DHp → Prop
abbrev DTE := DSt → DHp → DK → Prop
abbrev DTT := DSt → DHp → (Bool → DHp → Prop) → Prop
abbrev DTA := DSt → DHp → (List D → DHp → Prop) → Prop
structure DEnds where
  nx : DSt → DHp → Prop
  rt : DK
  bk : DSt → DHp → Prop := fun _ _ => False
  ct : DSt → DHp → Prop := fun _ _ => False
abbrev DTS := DEnds → DSt → DHp → Prop
abbrev DSp := List D → DHp → DK → Prop

/-- a plain tuple and its items -/
def SqP (K : PySem.W.Frag) (F : Hp) (p : Addr) (vs : List V) : Prop := SqT K F p vs ∧ PlT K F p
mutual
inductive Rep (K : PySem.W.Frag) (F : Hp) (m : List Addr) : D → V → Prop where
  | non : Rep K F m .non .non
  | bl (b : Bool) : Rep K F m (.bl b) (.bl b)
  | int (i : Int) : Rep K F m (.int i) (.int i)
  | str (x : Str) : Rep K F m (.str x) (.str x)
  | ty (n : String) : Rep K F m (.ty n) (.ty n)
  | tw {ds : List D} {vs : List V} {p : Addr} : SqT K F p vs → RepL K F m ds vs → ds.length ≤ sizeLine → Rep K F m (.tw ds) (.ref p)
  | tup {ds : List D} {vs : List V} {p : Addr} : SqP K F p vs → RepL K F m ds vs → ds.length ≤ sizeLine → Rep K F m (.tup ds) (.ref p)
  | fl {ds : List D} {vs : List V} {p : Addr} : F p = some (.lst vs) → RepL K F m ds vs → ds.length ≤ sizeLine → Rep K F m (.fl ds) (.ref p)
  | sl {ds : List D} {vs : List V} {p : Addr} : SqL K F p vs → RepL K F m ds vs → ds.length ≤ sizeLine → Rep K F m (.sl ds) (.ref p)
  | fd {p : Addr} {kvs : List (Key × V)} : F p = some (.dK kvs) → Rep K F m .fd (.ref p)
  | ref {i : Nat} {a : Addr} : m[i]? = some a → Rep K F m (.ref i) (.ref a)
inductive RepL (K : PySem.W.Frag) (F : Hp) (m : List Addr) : List D → List V → Prop where
  | nil : RepL K F m [] []
  | cons {d : D} {v : V} {ds : List D} {vs : List V} : Rep K F m d v → RepL K F m ds vs → RepL K F m (d :: ds) (v :: vs)
end

section
variable {K : PySem.W.Frag} {F F' H : Hp} {m m' : List Addr}
theorem sqT_mono {p : Addr} {vs : List V} (s : Same F F') (h : SqT K F p vs) : SqT K F' p vs := by
  rcases h with (h | ⟨o, h⟩) | h
  · exact .inl (.inl (s _ _ h))
  · exact .inl (.inr ⟨o, s _ _ h⟩)
  · exact .inr h
theorem plT_mono {p : Addr} (s : Same F F') (h : PlT K F p) : PlT K F' p := by
  rcases h with ⟨o, u, e, h⟩ | h
  · exact .inl ⟨o, u, s _ _ e, h⟩
  · exact .inr h
theorem sqP_mono {p : Addr} {vs : List V} (s : Same F F') (h : SqP K F p vs) : SqP K F' p vs := ⟨sqT_mono s h.1, plT_mono s h.2⟩
theorem sqL_mono {p : Addr} {vs : List V} (s : Same F F') (h : SqL K F p vs) : SqL K F' p vs := by
  rcases h with (h | ⟨o, h⟩) | h
  · exact .inl (.inl (s _ _ h))
  · exact .inl (.inr ⟨o, s _ _ h⟩)
  · exact .inr h
theorem pre_get {i : Nat} {a : Addr} (h : m <+: m') (e : m[i]? = some a) : m'[i]? = some a := by
  obtain ⟨t, rfl⟩ := h
  rw [List.getElem?_append_left (List.getElem?_eq_some_iff.mp e).1]
  exact e
mutual
theorem Rep.mono (s : Same F F') (h : m <+: m') : ∀ {d : D} {v : V}, Rep K F m d v → Rep K F' m' d v
  | _, _, .non => .non
  | _, _, .bl b => .bl b
  | _, _, .int i => .int i
  | _, _, .str x => .str x
  | _, _, .ty n => .ty n
  | _, _, .tup h1 r z => .tup (sqP_mono s h1) (RepL.mono s h r) z
  | _, _, .tw h1 r z => .tw (sqT_mono s h1) (RepL.mono s h r) z
  | _, _, .fl h1 r z => .fl (s _ _ h1) (RepL.mono s h r) z
  | _, _, .sl h1 r z => .sl (sqL_mono s h1) (RepL.mono s h r) z
  | _, _, .fd h1 => .fd (s _ _ h1)
  | _, _, .ref e => .ref (pre_get h e)
theorem RepL.mono (s : Same F F') (h : m <+: m') : ∀ {ds : List D} {vs : List V}, RepL K F m ds vs → RepL K F' m' ds vs
  | _, _, .nil => .nil
  | _, _, .cons r t => .cons (Rep.mono s h r) (RepL.mono s h t)
end
theorem RepL.length : ∀ {ds : List D} {vs : List V}, RepL K F m ds vs → ds.length = vs.length
  | _, _, .nil => rfl
  | _, _, .cons _ t => by rw [List.length_cons, List.length_cons, RepL.length t]
theorem RepL.get : ∀ {ds : List D} {vs : List V} {i : Nat} {d : D}, RepL K F m ds vs → ds[i]? = some d → ∃ v, vs[i]? = some v ∧ Rep K F m d v
  | _, _, _, _, .nil, e => by simp at e
  | _, _, 0, _, .cons r _, e => by simp at e; subst e; exact ⟨_, rfl, r⟩
  | _, _, i + 1, d, .cons _ t, e => by
    obtain ⟨u, h1, h2⟩ := RepL.get (i := i) (d := d) t (by simpa using e)
    exact ⟨u, by simpa using h1, h2⟩
theorem RepL.getV : ∀ {ds : List D} {vs : List V} {i : Nat} {v : V}, RepL K F m ds vs → vs[i]? = some v → ∃ d, ds[i]? = some d ∧ Rep K F m d v
  | _, _, _, _, .nil, e => by simp at e
  | _, _, 0, _, .cons r _, e => by simp at e; subst e; exact ⟨_, rfl, r⟩
  | _, _, i + 1, v, .cons _ t, e => by
    obtain ⟨u, h1, h2⟩ := RepL.getV (i := i) (v := v) t (by simpa using e)
    exact ⟨u, by simpa using h1, h2⟩
theorem RepL.set {d : D} {v : V} (r : Rep K F m d v) : ∀ {ds : List D} {vs : List V} (i : Nat), RepL K F m ds vs → RepL K F m (ds.set i d) (vs.set i v)
  | _, _, _, .nil => .nil
  | _, _, 0, .cons _ t => .cons r t
  | _, _, i + 1, .cons q t => .cons q (RepL.set r i t)
theorem RepL.append : ∀ {ds es : List D} {vs ws : List V}, RepL K F m ds vs → RepL K F m es ws → RepL K F m (ds ++ es) (vs ++ ws)
  | _, _, _, _, .nil, s => s
  | _, _, _, _, .cons r t, s => .cons r (RepL.append t s)
theorem RepL.take : ∀ {ds : List D} {vs : List V} (n : Nat), RepL K F m ds vs → RepL K F m (ds.take n) (vs.take n)
  | _, _, 0, _ => .nil
  | _, _, _ + 1, .nil => .nil
  | _, _, n + 1, .cons r t => .cons r (RepL.take n t)
theorem RepL.drop : ∀ {ds : List D} {vs : List V} (n : Nat), RepL K F m ds vs → RepL K F m (ds.drop n) (vs.drop n)
  | _, _, 0, r => r
  | _, _, _ + 1, .nil => .nil
  | _, _, n + 1, .cons _ t => RepL.drop n t
theorem RepL.eraseIdx : ∀ {ds : List D} {vs : List V} (i : Nat), RepL K F m ds vs → RepL K F m (ds.eraseIdx i) (vs.eraseIdx i)
  | _, _, _, .nil => .nil
  | _, _, 0, .cons _ t => t
  | _, _, i + 1, .cons r t => .cons r (RepL.eraseIdx i t)
theorem RepL.reverse {ds : List D} {vs : List V} (h : RepL K F m ds vs) : RepL K F m ds.reverse vs.reverse := by
  induction h using RepL.rec (motive_1 := fun _ _ _ => True) with
  | nil => exact .nil
  | cons r t _ ih => rw [List.reverse_cons, List.reverse_cons]; exact ih.append (.cons r .nil)
  | _ => trivial
theorem RepL.dropLast : ∀ {ds : List D} {vs : List V}, RepL K F m ds vs → RepL K F m ds.dropLast vs.dropLast
  | _, _, .nil => .nil
  | _, _, .cons r .nil => .nil
  | _, _, .cons r (.cons r2 t) => .cons r (RepL.dropLast (.cons r2 t))
theorem RepL.rep {ds : List D} {vs : List V} (h : RepL K F m ds vs) : ∀ k : Nat, RepL K F m (List.replicate k ds).flatten (List.replicate k vs).flatten
  | 0 => .nil
  | k + 1 => by
    rw [List.replicate_succ, List.replicate_succ, List.flatten_cons, List.flatten_cons]
    exact h.append (RepL.rep h k)
theorem RepL.ints {ns : List Int} : ∀ {vs : List V}, RepL K F m (ns.map D.int) vs → vs = ns.map V.int := by
  induction ns with
  | nil => intro vs h; cases h; rfl
  | cons n r ih =>
    intro vs h
    cases h with
    | cons h1 h2 =>
      cases h1
      rw [ih h2]; rfl
theorem RepL.of_ints : ∀ (ns : List Int), RepL K F m (ns.map D.int) (ns.map V.int)
  | [] => .nil
  | n :: r => .cons (.int n) (RepL.of_ints r)
theorem RepL.bls {ns : List Bool} : ∀ {vs : List V}, RepL K F m (ns.map D.bl) vs → vs = ns.map V.bl := by
  induction ns with
  | nil => intro vs h; cases h; rfl
  | cons n r ih =>
    intro vs h
    cases h with
    | cons h1 h2 =>
      cases h1
      rw [ih h2]; rfl
theorem RepL.of_strs : ∀ (ns : List Str), RepL K F m (ns.map D.str) (ns.map V.str)
  | [] => .nil
  | n :: r => .cons (.str n) (RepL.of_strs r)
theorem RepL.strs {ns : List Str} : ∀ {vs : List V}, RepL K F m (ns.map D.str) vs → vs = ns.map V.str := by
  induction ns with
  | nil => intro vs h; cases h; rfl
  | cons n r ih =>
    intro vs h
    cases h with
    | cons h1 h2 =>
      cases h1
      rw [ih h2]; rfl
end

/-- what is fixed through a body: the written part, the module's names, what stays true of the frozen part -/
structure Bx where
  K : PySem.W.Frag
  mg : Str → Option Value
  Fl : Hp → List Addr → Prop
  up : ∀ F F' m m', Same F F' → m <+: m' → Fl F m → Fl F' m'

def FRep (K : PySem.W.Frag) (F : Hp) (m : List Addr) : List (Str × D) → List (Str × V) → Prop
  | [], [] => True
  | p :: ps, q :: qs => p.1 = q.1 ∧ Rep K F m p.2 q.2 ∧ FRep K F m ps qs
  | _, _ => False
theorem FRep.mono {K : PySem.W.Frag} {F F' : Hp} {m m' : List Addr} (s : Same F F') (h : m <+: m') : ∀ {ps : List (Str × D)} {qs : List (Str × V)}, FRep K F m ps qs → FRep K F' m' ps qs
  | [], [], _ => trivial
  | _ :: _, _ :: _, ⟨e, r, t⟩ => ⟨e, r.mono s h, FRep.mono s h t⟩
  | [], _ :: _, z => z.elim
  | _ :: _, [], z => z.elim

def ORep (B : Bx) (F : Hp) (m : List Addr) (H : Hp) (a : Addr) : DO → Prop
  | .lst xs => ∃ vs, H a = some (.lst vs) ∧ RepL B.K F m xs vs ∧ xs.length ≤ sizeLine
  | .ins c fs => ∃ C dx vs, B.mg c = some (.ref C) ∧ H a = some (.ins C dx vs) ∧ FRep B.K F m fs vs

structure HRel (B : Bx) (H : Hp) (G : DHp) (F R : Hp) (m : List Addr) : Prop where
  subF : Same F H
  subR : Same R H
  apart : ∀ a o, R a = some o → F a = none
  len : m.length = G.length
  obj : ∀ (i : Nat) o, G[i]? = some o → ∃ a, m[i]? = some a ∧ ORep B F m H a o
  free : ∀ a, a ∈ m → F a = none ∧ R a = none
  nd : m.Nodup
  fl : B.Fl F m

structure Rel (B : Bx) (σ : L2.St) (H : Hp) (ρ : DSt) (G : DHp) (F R : Hp) (m : List Addr) : Prop extends HRel B H G F R m where
  slen : ρ.length = σ.length
  slot : ∀ (i : Nat) d, ρ[i]? = some (some d) → ∃ v, σ[i]? = some (some v) ∧ Rep B.K F m d v

section
variable {B : Bx} {σ : L2.St} {H H' : Hp} {ρ : DSt} {G : DHp} {F F' R : Hp} {m m' : List Addr} {p : Addr}
theorem ORep.mono (s : Same F F') (h : m <+: m') (e : H' p = H p) {o : DO} (r : ORep B F m H p o) : ORep B F' m' H' p o := by
  cases o with
  | lst xs => obtain ⟨vs, h1, h2, z⟩ := r; exact ⟨vs, e.trans h1, h2.mono s h, z⟩
  | ins c fs => obtain ⟨C, dx, vs, h1, h2, h3⟩ := r; exact ⟨C, dx, vs, h1, e.trans h2, h3.mono s h⟩
theorem ORep.some {o : DO} (r : ORep B F m H p o) : ∃ u, H p = some u ∧ Mut (some u) := by
  cases o with
  | lst xs => obtain ⟨vs, h1, h2, _⟩ := r; exact ⟨_, h1, trivial⟩
  | ins c fs => obtain ⟨C, dx, vs, h1, h2, h3⟩ := r; exact ⟨_, h2, trivial⟩
theorem HRel.there (I : HRel B H G F R m) {a : Addr} (h : a ∈ m) : ∃ u, H a = some u ∧ Mut (some u) := by
  obtain ⟨i, hi, e⟩ := List.getElem_of_mem h
  have hG : i < G.length := by rw [← I.len]; exact hi
  obtain ⟨b, e2, r⟩ := I.obj i G[i] (List.getElem?_eq_getElem hG)
  rw [List.getElem?_eq_getElem hi] at e2
  have e3 := Option.some.inj e2
  rw [e] at e3
  subst e3
  exact r.some
theorem HRel.nomem (I : HRel B H G F R m) (hp : H p = none) : p ∉ m := fun h => by
  obtain ⟨u, e, _⟩ := I.there h
  rw [hp] at e; cases e
theorem HRel.noF (I : HRel B H G F R m) (hp : H p = none) : F p = none := I.subF.free hp
theorem HRel.noR (I : HRel B H G F R m) (hp : H p = none) : R p = none := I.subR.free hp
theorem same_upd {o : HO} (h : F p = none) : Same F (upd F p o) := fun b u e => by
  rw [upd_ne (ne_of_none e h)]; exact e
/-- a new thing is laid and frozen -/
theorem HRel.frz (I : HRel B H G F R m) (hp : H p = none) (o : HO) : HRel B (upd H p o) G (upd F p o) R m where
  subF := fun a u e => by
    by_cases h : a = p
    · subst h; rw [upd_same] at e ⊢; exact e
    · rw [upd_ne h] at e ⊢; exact I.subF a u e
  subR := fun a u e => by
    rw [upd_ne (ne_of_none e (I.noR hp))]; exact I.subR a u e
  apart := fun a u e => by
    rw [upd_ne (ne_of_none e (I.noR hp))]; exact I.apart a u e
  len := I.len
  obj := fun i u e => by
    obtain ⟨a, e1, r⟩ := I.obj i u e
    refine ⟨a, e1, r.mono (same_upd (I.noF hp)) (List.prefix_refl _) (upd_ne ?_)⟩
    rintro rfl
    exact I.nomem hp (List.mem_of_getElem? e1)
  free := fun a h => by
    have := I.free a h
    refine ⟨?_, this.2⟩
    rw [upd_ne]
    · exact this.1
    · rintro rfl; exact I.nomem hp h
  nd := I.nd
  fl := B.up _ _ _ _ (same_upd (I.noF hp)) (List.prefix_refl _) I.fl
/-- a new thing is laid, privately -/
theorem HRel.prv (I : HRel B H G F R m) (hp : H p = none) (o : HO) : HRel B (upd H p o) G F (upd R p o) m where
  subF := fun a u e => by
    rw [upd_ne (ne_of_none e (I.noF hp))]; exact I.subF a u e
  subR := fun a u e => by
    by_cases h : a = p
    · subst h; rw [upd_same] at e ⊢; exact e
    · rw [upd_ne h] at e ⊢; exact I.subR a u e
  apart := fun a u e => by
    by_cases h : a = p
    · subst h; exact I.noF hp
    · rw [upd_ne h] at e; exact I.apart a u e
  len := I.len
  obj := fun i u e => by
    obtain ⟨a, e1, r⟩ := I.obj i u e
    refine ⟨a, e1, r.mono (Same.refl _) (List.prefix_refl _) (upd_ne ?_)⟩
    rintro rfl
    exact I.nomem hp (List.mem_of_getElem? e1)
  free := fun a h => by
    have := I.free a h
    refine ⟨this.1, ?_⟩
    rw [upd_ne]
    · exact this.2
    · rintro rfl; exact I.nomem hp h
  nd := I.nd
  fl := I.fl
/-- a private thing is written -/
theorem HRel.prvSet {o o' : HO} (I : HRel B H G F R m) (hp : R p = some o) : HRel B (upd H p o') G F (upd R p o') m where
  subF := fun a u e => by
    have : a ≠ p := by rintro rfl; rw [I.apart _ _ hp] at e; cases e
    rw [upd_ne this]; exact I.subF a u e
  subR := fun a u e => by
    by_cases h : a = p
    · subst h; rw [upd_same] at e ⊢; exact e
    · rw [upd_ne h] at e ⊢; exact I.subR a u e
  apart := fun a u e => by
    by_cases h : a = p
    · subst h; exact I.apart _ _ hp
    · rw [upd_ne h] at e; exact I.apart a u e
  len := I.len
  obj := fun i u e => by
    obtain ⟨a, e1, r⟩ := I.obj i u e
    refine ⟨a, e1, r.mono (Same.refl _) (List.prefix_refl _) (upd_ne ?_)⟩
    rintro rfl
    have := (I.free _ (List.mem_of_getElem? e1)).2
    rw [hp] at this; cases this
  free := fun a h => by
    have := I.free a h
    refine ⟨this.1, ?_⟩
    rw [upd_ne]
    · exact this.2
    · rintro rfl; rw [hp] at this; cases this.2
  nd := I.nd
  fl := I.fl
/-- a private thing is given up: not looked at any more -/
theorem HRel.prvDrop (I : HRel B H G F R m) {R' : Hp} (h : Same R' R) : HRel B H G F R' m :=
  ⟨I.subF, fun a o e => I.subR a o (h a o e), fun a o e => I.apart a o (h a o e), I.len, I.obj, fun a e => ⟨(I.free a e).1, h.free (I.free a e).2⟩, I.nd, I.fl⟩
/-- a thing that is neither frozen nor ours is frozen -/
theorem HRel.toF {o : HO} (I : HRel B H G F R m) (hp : H p = some o) (hF : F p = none) (hR : R p = none) (hm : p ∉ m) : HRel B H G (upd F p o) R m where
  subF := fun a u e => by
    by_cases h : a = p
    · subst h; rw [upd_same] at e; rw [hp]; exact e
    · rw [upd_ne h] at e; exact I.subF a u e
  subR := I.subR
  apart := fun a u e => by
    rw [upd_ne (ne_of_none e hR)]; exact I.apart a u e
  len := I.len
  obj := fun i u e => by
    obtain ⟨a, e1, r⟩ := I.obj i u e
    exact ⟨a, e1, r.mono (same_upd hF) (List.prefix_refl _) rfl⟩
  free := fun a h => by
    have := I.free a h
    refine ⟨?_, this.2⟩
    rw [upd_ne]
    · exact this.1
    · rintro rfl; exact hm h
  nd := I.nd
  fl := B.up _ _ _ _ (same_upd hF) (List.prefix_refl _) I.fl
/-- .. or becomes ours -/
theorem HRel.toM {o : DO} (I : HRel B H G F R m) (hr : ORep B F (m ++ [p]) H p o) (hF : F p = none) (hR : R p = none) (hm : p ∉ m) : HRel B H (G ++ [o]) F R (m ++ [p]) where
  subF := I.subF
  subR := I.subR
  apart := I.apart
  len := by rw [List.length_append, List.length_append, I.len]; rfl
  obj := fun i u e => by
    by_cases h : i < G.length
    · rw [List.getElem?_append_left h] at e
      obtain ⟨a, e1, r⟩ := I.obj i u e
      refine ⟨a, ?_, r.mono (Same.refl _) (List.prefix_append _ _) rfl⟩
      rw [List.getElem?_append_left (by rw [I.len]; exact h)]
      exact e1
    · have hi : i = G.length := by
        have := (List.getElem?_eq_some_iff.mp e).1
        rw [List.length_append] at this
        have : i < G.length + 1 := this
        omega
      subst hi
      rw [List.getElem?_append_right (Nat.le_refl _), Nat.sub_self] at e
      have e' : o = u := by simpa using e
      subst e'
      refine ⟨p, ?_, hr⟩
      rw [← I.len, List.getElem?_append_right (Nat.le_refl _), Nat.sub_self]
      rfl
  free := fun a h => by
    rcases List.mem_append.mp h with h | h
    · exact I.free a h
    · have : a = p := by simpa using h
      subst this
      exact ⟨hF, hR⟩
  nd := by
    refine List.nodup_append.mpr ⟨I.nd, by simp, fun a ha b hb => ?_⟩
    have : b = p := by simpa using hb
    subst this
    rintro rfl
    exact hm ha
  fl := B.up _ _ _ _ (Same.refl _) (List.prefix_append _ _) I.fl
/-- an object of ours is written -/
theorem HRel.set {i : Nat} {o : DO} {u : HO} {a : Addr} (I : HRel B H G F R m) (ha : m[i]? = some a) (hr : ORep B F m (upd H a u) a o) : HRel B (upd H a u) (G.set i o) F R m where
  subF := fun b v e => by
    rw [upd_ne (ne_of_none e (I.free a (List.mem_of_getElem? ha)).1)]; exact I.subF b v e
  subR := fun b v e => by
    rw [upd_ne (ne_of_none e (I.free a (List.mem_of_getElem? ha)).2)]; exact I.subR b v e
  apart := I.apart
  len := by rw [List.length_set]; exact I.len
  obj := fun j v e => by
    by_cases h : j = i
    · subst h
      have hj : j < G.length := by rw [← I.len]; exact (List.getElem?_eq_some_iff.mp ha).1
      rw [List.getElem?_set_self hj] at e
      cases e
      exact ⟨a, ha, hr⟩
    · rw [List.getElem?_set_ne (Ne.symm h)] at e
      obtain ⟨b, e1, r⟩ := I.obj j v e
      refine ⟨b, e1, r.mono (Same.refl _) (List.prefix_refl _) (upd_ne ?_)⟩
      rintro rfl
      obtain ⟨h1, e1⟩ := List.getElem?_eq_some_iff.mp e1
      obtain ⟨h2, e2⟩ := List.getElem?_eq_some_iff.mp ha
      exact h ((List.getElem_inj I.nd).mp (e1.trans e2.symm))
  free := I.free
  nd := I.nd
  fl := I.fl
theorem Rel.of (I : Rel B σ H ρ G F R m) {H' : Hp} {G' : DHp} {F' R' : Hp} {m' : List Addr} (J : HRel B H' G' F' R' m') (s : Same F F') (h : m <+: m') : Rel B σ H' ρ G' F' R' m' :=
  { J with slen := I.slen, slot := fun i d e => let ⟨v, e1, r⟩ := I.slot i d e; ⟨v, e1, r.mono s h⟩ }
theorem prefix_trans {α : Type} {a b c : List α} (h : a <+: b) (k : b <+: c) : a <+: c := List.IsPrefix.trans h k
end
end DL

/-! DLb: readings at the data level, lifted to the layer's; rules for expressions. -/
namespace DL
open PySem PySem.Spec PyProof.Rows L2

theorem PE.imp {X : Cx} {e : Expr} {t t' : TE} (h : PE X e t) (w : ∀ σ H Q, t' σ H Q → t σ H Q) : PE X e t' := ⟨fun pins s σ H Q I q => h.run pins s σ H Q I (w _ _ _ q)⟩
theorem PT.imp {X : Cx} {e : Expr} {t t' : TT} (h : PT X e t) (w : ∀ σ H Q, t' σ H Q → t σ H Q) : PT X e t' := ⟨fun pins s σ H Q I q => h.run pins s σ H Q I (w _ _ _ q)⟩
theorem PW.imp {X : Cx} {e : Expr} {t t' : TT} (h : PW X e t) (w : ∀ σ H Q, t' σ H Q → t σ H Q) : PW X e t' := ⟨fun wh pins s σ H Q I q => h.run wh pins s σ H Q I (w _ _ _ q)⟩
theorem PA.imp {X : Cx} {e : List Expr} {t t' : TA} (h : PA X e t) (w : ∀ σ H Q, t' σ H Q → t σ H Q) : PA X e t' := ⟨fun pos pins s σ H Q I q => h.run pos pins s σ H Q I (w _ _ _ q)⟩
theorem PS.imp {X : Cx} {e : Stmt} {t t' : TS} (h : PS X e t) (w : ∀ D σ H, t' D σ H → t D σ H) : PS X e t' := ⟨fun pins s σ H D I q => h.run pins s σ H D I (w _ _ _ q)⟩
theorem PSs.imp {X : Cx} {e : List Stmt} {t t' : TS} (h : PSs X e t) (w : ∀ D σ H, t' D σ H → t D σ H) : PSs X e t' := ⟨fun pins s σ H D I q => h.run pins s σ H D I (w _ _ _ q)⟩
theorem PI.imp {X : Cx} {tg e : Expr} {t t' : TI} (h : PI X tg e t) (w : ∀ σ H Q, t' σ H Q → t σ H Q) : PI X tg e t' := ⟨fun pins s σ H Q I q => h.run pins s σ H Q I (w _ _ _ q)⟩

section
variable (B : Bx) (F R : Hp) (m : List Addr)
def PostV (QD : DK) (Q : VK) : Prop := ∀ d G' v H' F' m', HRel B H' G' F' R m' → Same F F' → m <+: m' → Rep B.K F' m' d v → QD d G' → Q v H'
def PostT (QD : Bool → DHp → Prop) (Q : Bool → Hp → Prop) : Prop := ∀ b G' H' F' m', HRel B H' G' F' R m' → Same F F' → m <+: m' → QD b G' → Q b H'
def PostA (QD : List D → DHp → Prop) (Q : List V → Hp → Prop) : Prop := ∀ ds G' vs H' F' m', HRel B H' G' F' R m' → Same F F' → m <+: m' → RepL B.K F' m' ds vs → QD ds G' → Q vs H'
def PostN (QD : List D → DHp → Prop) (Q : VK) : Prop := ∀ ds G' p vs H' F' m', HRel B H' G' F' R m' → Same F F' → m <+: m' → H' p = some (.lst vs) → F' p = none → R p = none → p ∉ m' → RepL B.K F' m' ds vs → ds.length ≤ sizeLine → QD ds G' → Q (.ref p) H'
structure PostS (DD : DEnds) (E : Ends) : Prop where
  nx : ∀ ρ' G' σ' H' F' m', Rel B σ' H' ρ' G' F' R m' → Same F F' → m <+: m' → DD.nx ρ' G' → E.nx σ' H'
  rt : ∀ d G' v H' F' m', HRel B H' G' F' R m' → Same F F' → m <+: m' → Rep B.K F' m' d v → DD.rt d G' → E.rt v H'
  bk : ∀ ρ' G' σ' H' F' m', Rel B σ' H' ρ' G' F' R m' → Same F F' → m <+: m' → DD.bk ρ' G' → E.bk σ' H'
  ct : ∀ ρ' G' σ' H' F' m', Rel B σ' H' ρ' G' F' R m' → Same F F' → m <+: m' → DD.ct ρ' G' → E.ct σ' H'
end
section
variable {B : Bx} {F F1 R : Hp} {m m1 : List Addr}
theorem PostV.next {QD : DK} {Q : VK} (h : PostV B F R m QD Q) (s : Same F F1) (p : m <+: m1) : PostV B F1 R m1 QD Q := fun d G v H F' m' J s' p' => h d G v H F' m' J (s.trans s') (prefix_trans p p')
theorem PostT.next {QD : Bool → DHp → Prop} {Q : Bool → Hp → Prop} (h : PostT B F R m QD Q) (s : Same F F1) (p : m <+: m1) : PostT B F1 R m1 QD Q := fun d G H F' m' J s' p' => h d G H F' m' J (s.trans s') (prefix_trans p p')
theorem PostA.next {QD : List D → DHp → Prop} {Q : List V → Hp → Prop} (h : PostA B F R m QD Q) (s : Same F F1) (p : m <+: m1) : PostA B F1 R m1 QD Q := fun d G v H F' m' J s' p' => h d G v H F' m' J (s.trans s') (prefix_trans p p')
theorem PostN.next {QD : List D → DHp → Prop} {Q : VK} (h : PostN B F R m QD Q) (s : Same F F1) (p : m <+: m1) : PostN B F1 R m1 QD Q := fun d G a v H F' m' J s' p' => h d G a v H F' m' J (s.trans s') (prefix_trans p p')
theorem PostS.next {DD : DEnds} {E : Ends} (h : PostS B F R m DD E) (s : Same F F1) (p : m <+: m1) : PostS B F1 R m1 DD E :=
  ⟨fun r G v H F' m' J s' p' => h.nx r G v H F' m' J (s.trans s') (prefix_trans p p'), fun r G v H F' m' J s' p' => h.rt r G v H F' m' J (s.trans s') (prefix_trans p p'),
   fun r G v H F' m' J s' p' => h.bk r G v H F' m' J (s.trans s') (prefix_trans p p'), fun r G v H F' m' J s' p' => h.ct r G v H F' m' J (s.trans s') (prefix_trans p p')⟩
end

def liftE (B : Bx) (td : DTE) : TE := fun σ H Q => ∃ ρ G F R m QD, Rel B σ H ρ G F R m ∧ td ρ G QD ∧ PostV B F R m QD Q
def liftT (B : Bx) (td : DTT) : TT := fun σ H Q => ∃ ρ G F R m QD, Rel B σ H ρ G F R m ∧ td ρ G QD ∧ PostT B F R m QD Q
def liftA (B : Bx) (td : DTA) : TA := fun σ H Q => ∃ ρ G F R m QD, Rel B σ H ρ G F R m ∧ td ρ G QD ∧ PostA B F R m QD Q
def liftN (B : Bx) (td : DTA) : TE := fun σ H Q => ∃ ρ G F R m QD, Rel B σ H ρ G F R m ∧ td ρ G QD ∧ PostN B F R m QD Q
def liftS (B : Bx) (td : DTS) : TS := fun E σ H => ∃ ρ G F R m DD, Rel B σ H ρ G F R m ∧ td DD ρ G ∧ PostS B F R m DD E

/-! ### how data are seen -/
def viewO (i : Nat) : Option DO → D
  | some (.lst xs) => .fl xs
  | _ => .ref i
def view (G : DHp) : D → D
  | .ref i => viewO i G[i]?
  | d => d
theorem view_ref (G : DHp) (i : Nat) : view G (.ref i) = viewO i G[i]? := rfl
/-- a list's items -/
def listOf (G : DHp) (d : D) : Option (List D) := match view G d with
  | .fl xs => some xs
  | .sl xs => some xs
  | _ => none
def D.isVal : D → Bool
  | .ref _ => false
  | _ => true
section
variable {B : Bx} {F R H : Hp} {m : List Addr} {G : DHp}
/-- what a value is, seen in the heap as it stands -/
theorem HRel.view (I : HRel B H G F R m) {d : D} {v : V} (r : Rep B.K F m d v) (h : (DL.view G d).isVal = true) : Rep B.K H m (DL.view G d) v := by
  cases d with
  | ref i =>
    cases r with | @ref _ a e =>
    rw [view_ref] at h ⊢
    cases hg : G[i]? with
    | none => rw [hg] at h; cases h
    | some o =>
      rw [hg] at h
      cases o with
      | lst xs =>
        show Rep B.K H m (.fl xs) _
        obtain ⟨b, e2, vs, h1, h2, z⟩ := I.obj i _ hg
        rw [e] at e2; cases e2
        exact .fl h1 (h2.mono I.subF (List.prefix_refl _)) z
      | ins c fs => cases h
  | _ => exact r.mono I.subF (List.prefix_refl _)
theorem HRel.own (I : HRel B H G F R m) {i : Nat} {v : V} {xs : List D} (r : Rep B.K F m (.ref i) v) (h : G[i]? = some (.lst xs)) : ∃ p vs, v = .ref p ∧ m[i]? = some p ∧ H p = some (.lst vs) ∧ RepL B.K F m xs vs ∧ xs.length ≤ sizeLine := by
  cases r with
  | @ref i a e =>
    obtain ⟨b, e2, vs, h1, h2, z⟩ := I.obj i _ h
    rw [e] at e2; cases e2
    exact ⟨_, _, rfl, e, h1, h2, z⟩
theorem viewO_fl {i : Nat} {o : Option DO} {xs : List D} (h : viewO i o = .fl xs) : o = some (.lst xs) := by
  cases o with
  | none => cases h
  | some o =>
    cases o with
    | lst ys => cases h; rfl
    | ins c fs => cases h
/-- a list that is no frozen thing of the object's own -/
theorem HRel.list' (I : HRel B H G F R m) {d : D} {v : V} {xs : List D} (r : Rep B.K F m d v) (h : DL.view G d = .fl xs) : ∃ p vs, v = .ref p ∧ H p = some (.lst vs) ∧ RepL B.K F m xs vs ∧ xs.length ≤ sizeLine := by
  cases d with
  | ref i =>
    obtain ⟨p, vs, e, _, h1, h2, z⟩ := I.own r (viewO_fl h)
    exact ⟨p, vs, e, h1, h2, z⟩
  | fl ys =>
    cases h
    cases r with | fl h1 h2 z => exact ⟨_, _, rfl, I.subF _ _ h1, h2, z⟩
  | _ => cases h
theorem HRel.list (I : HRel B H G F R m) {d : D} {v : V} {xs : List D} (r : Rep B.K F m d v) (h : listOf G d = some xs) : ∃ p vs, v = .ref p ∧ SqL B.K H p vs ∧ RepL B.K F m xs vs ∧ xs.length ≤ sizeLine := by
  cases d with
  | sl ys =>
    cases h
    cases r with | sl h1 h2 z => exact ⟨_, _, rfl, sqL_mono I.subF h1, h2, z⟩
  | ref i =>
    have e : DL.view G (.ref i) = .fl xs := by
      unfold listOf at h
      rw [view_ref] at h ⊢
      cases hg : G[i]? with
      | none => rw [hg] at h; cases h
      | some o =>
        rw [hg] at h
        cases o with
        | lst ys => cases h; rfl
        | ins c fs => cases h
    obtain ⟨p, vs, e, h1, h2, z⟩ := I.list' r e
    exact ⟨p, vs, e, .inl (.inl h1), h2, z⟩
  | fl ys =>
    cases h
    obtain ⟨p, vs, e, h1, h2, z⟩ := I.list' r rfl
    exact ⟨p, vs, e, .inl (.inl h1), h2, z⟩
  | _ => cases h
theorem Rep.isTup {K : PySem.W.Frag} {xs : List D} {v : V} (r : Rep K F m (.tup xs) v) : ∃ p vs, v = .ref p ∧ SqP K F p vs ∧ RepL K F m xs vs ∧ xs.length ≤ sizeLine := by
  cases r with | tup h1 h2 z => exact ⟨_, _, rfl, h1, h2, z⟩
theorem Rep.isInt {K : PySem.W.Frag} {i : Int} {v : V} (r : Rep K F m (.int i) v) : v = .int i := by cases r; rfl
theorem Rep.isStr {K : PySem.W.Frag} {i : Str} {v : V} (r : Rep K F m (.str i) v) : v = .str i := by cases r; rfl
theorem Rep.isBl {K : PySem.W.Frag} {i : Bool} {v : V} (r : Rep K F m (.bl i) v) : v = .bl i := by cases r; rfl
theorem Rep.isNon {K : PySem.W.Frag} {v : V} (r : Rep K F m .non v) : v = .non := by cases r; rfl
end

/-! ### leaves -/
/-- a branch, held fast -/
@[irreducible] def br (b : Bool) (p q : Prop) : Prop := if b = true then p else q
theorem br_t {p q : Prop} : br true p q ↔ p := by unfold br; rw [if_pos rfl]
theorem br_f {p q : Prop} : br false p q ↔ q := by unfold br; rw [if_neg Bool.false_ne_true]
theorem br_i {b : Bool} {p q : Prop} (h : b = true → p) (h' : b = false → q) : br b p q := by
  cases b with
  | true => exact br_t.mpr (h rfl)
  | false => exact br_f.mpr (h' rfl)
theorem br_yes {b : Bool} {p q : Prop} (e : b = true) (h : p) : br b p q := br_i (fun _ => h) fun e2 => by rw [e] at e2; cases e2
theorem br_no {b : Bool} {p q : Prop} (e : b = false) (h : q) : br b p q := br_i (fun e2 => by rw [e] at e2; cases e2) fun _ => h
def vget : Option (Option D) → (D → Prop) → Prop
  | some (some d), k => k d
  | _, _ => False
theorem vget_some {o : Option (Option D)} {k : D → Prop} (h : vget o k) : ∃ d, o = some (some d) ∧ k d := by
  unfold vget at h
  split at h
  · exact ⟨_, rfl, h⟩
  · exact h.elim
def dVar (i : Nat) : DTE := fun ρ G Q => vget ρ[i]? fun d => Q d G
def dLit (d : D) : DTE := fun _ G Q => Q d G
section
variable {X : Cx} {B : Bx}
theorem de_var {i : Nat} {e : Expr} (h : PE X e (tVar i)) : PE X e (liftE B (dVar i)) := PE.imp h fun σ H Q ⟨ρ, G, F, R, m, QD, I, t, post⟩ => by
  obtain ⟨d, e, q⟩ := vget_some t
  obtain ⟨v, e1, r⟩ := I.slot i d e
  exact ⟨v, e1, post d G v H F m I.toHRel (Same.refl _) (List.prefix_refl _) r q⟩
theorem de_lit {d : D} {v : V} {e : Expr} (h : PE X e (tC v)) (r : ∀ F m, Rep B.K F m d v) : PE X e (liftE B (dLit d)) := PE.imp h fun σ H Q ⟨ρ, G, F, R, m, QD, I, q, post⟩ =>
  post d G v H F m I.toHRel (Same.refl _) (List.prefix_refl _) (r F m) q
end

/-! ### two operands -/
abbrev DOp2 := D → D → DHp → DK → Prop
def OpD (B : Bx) (X : Cx) (f : Value → Value → Sem Value) (rD : DOp2) : Prop :=
  ∃ r : R2, OpR X f r ∧ ∀ x y v u H G F R m QD Q, HRel B H G F R m → Rep B.K F m x v → Rep B.K F m y u → rD x y G QD → PostV B F R m QD Q → r v u H Q
def dOp (rD : DOp2) (ta tb : DTE) : DTE := fun ρ G Q => ta ρ G fun x G1 => tb ρ G1 fun y G2 => rD x y G2 Q
/-- .. that make a new list -/
abbrev DOpN := D → D → DHp → (List D → DHp → Prop) → Prop
def OpN (B : Bx) (X : Cx) (f : Value → Value → Sem Value) (rD : DOpN) : Prop :=
  ∃ r : R2, OpR X f r ∧ ∀ x y v u H G F R m QD Q, HRel B H G F R m → Rep B.K F m x v → Rep B.K F m y u → rD x y G QD → PostN B F R m QD Q → r v u H Q
def dOpN (rD : DOpN) (ta tb : DTE) : DTA := fun ρ G Q => ta ρ G fun x G1 => tb ρ G1 fun y G2 => rD x y G2 Q
section
variable {X : Cx} {B : Bx} {a b c : Expr} {ta tb tc : DTE} {pos : Pos}
theorem bin_ok {σ : L2.St} {H : Hp} {rr : V → V → Hp → Prop} {ρ : DSt} {G : DHp} {F R : Hp} {m : List Addr} {QQ : D → D → DHp → Prop} (I : Rel B σ H ρ G F R m) (t : ta ρ G fun x G1 => tb ρ G1 fun y G2 => QQ x y G2)
    (h : ∀ x y v u G' H' F' m', HRel B H' G' F' R m' → Same F F' → m <+: m' → Rep B.K F' m' x v → Rep B.K F' m' y u → QQ x y G' → rr v u H') : liftE B ta σ H fun v H1 => liftE B tb σ H1 fun u H2 => rr v u H2 :=
  ⟨ρ, G, F, R, m, _, I, t, fun x G1 v H1 F1 m1 J1 s1 p1 r1 q1 => ⟨ρ, G1, F1, R, m1, _, I.of J1 s1 p1, q1, fun y G2 u H2 F2 m2 J2 s2 p2 r2 q2 =>
    h x y v u G2 H2 F2 m2 J2 (s1.trans s2) (prefix_trans p1 p2) (r1.mono s2 p2) r2 q2⟩⟩
theorem de_op {op : Operator} {rD : DOp2} (ho : OpD B X (binaryOp op) rD) (ha : PE X a (liftE B ta)) (hb : PE X b (liftE B tb)) : PE X (.BinOp a op b pos) (liftE B (dOp rD ta tb)) := by
  obtain ⟨r, h1, h2⟩ := ho
  refine PE.imp (pe_op h1 ha hb) fun σ H Q ⟨ρ, G, F, R, m, QD, I, t, post⟩ => ?_
  exact bin_ok (rr := fun v u H2 => r v u H2 Q) I t fun x y v u G' H' F' m' J s p rx ry q => h2 x y v u H' G' F' R m' QD Q J rx ry q (post.next s p)
theorem dn_op {op : Operator} {rD : DOpN} (ho : OpN B X (binaryOp op) rD) (ha : PE X a (liftE B ta)) (hb : PE X b (liftE B tb)) : PE X (.BinOp a op b pos) (liftN B (dOpN rD ta tb)) := by
  obtain ⟨r, h1, h2⟩ := ho
  refine PE.imp (pe_op h1 ha hb) fun σ H Q ⟨ρ, G, F, R, m, QD, I, t, post⟩ => ?_
  exact bin_ok (rr := fun v u H2 => r v u H2 Q) I t fun x y v u G' H' F' m' J s p rx ry q => h2 x y v u H' G' F' R m' QD Q J rx ry q (post.next s p)
theorem de_cmp {op : CmpOp} {rD : DOp2} (ho : OpD B X (compareOp op) rD) (hm : behindInMarks op b = false) (ha : PE X a (liftE B ta)) (hb : PE X b (liftE B tb)) : PE X (.Compare a [op] [b] pos) (liftE B (dOp rD ta tb)) := by
  obtain ⟨r, h1, h2⟩ := ho
  refine PE.imp (pe_cmpR h1 ha hb hm) fun σ H Q ⟨ρ, G, F, R, m, QD, I, t, post⟩ => ?_
  exact bin_ok (rr := fun v u H2 => r v u H2 Q) I t fun x y v u G' H' F' m' J s p rx ry q => h2 x y v u H' G' F' R m' QD Q J rx ry q (post.next s p)
end

/-- a value is told: no change -/
theorem PostV.now {B : Bx} {F R H : Hp} {m : List Addr} {G : DHp} {QD : DK} {Q : VK} {d : D} {v : V} (h : PostV B F R m QD Q) (I : HRel B H G F R m) (r : Rep B.K F m d v) (q : QD d G) : Q v H :=
  h d G v H F m I (Same.refl _) (List.prefix_refl _) r q
/-- a new tuple -/
theorem PostV.newTup {B : Bx} {F R H : Hp} {m : List Addr} {G : DHp} {QD : DK} {Q : VK} {ds : List D} {vs : List V} (h : PostV B F R m QD Q) (I : HRel B H G F R m) (r : RepL B.K F m ds vs) (z : ds.length ≤ sizeLine) (q : QD (.tup ds) G) :
    TN vs H Q := fun p ob hp hc hd =>
  h (.tup ds) G (.ref p) _ _ m (I.frz hp (.frz ob (.tup vs))) (same_upd (I.noF hp)) (List.prefix_refl _) (.tup ⟨.inl (.inr ⟨ob, upd_same⟩), .inl ⟨ob, _, upd_same, hc, hd⟩⟩ (r.mono (same_upd (I.noF hp)) (List.prefix_refl _)) z) q
/-- a new list -/
theorem PostN.new {B : Bx} {F R H : Hp} {m : List Addr} {G : DHp} {QD : List D → DHp → Prop} {Q : VK} {ds : List D} {vs : List V} (h : PostN B F R m QD Q) (I : HRel B H G F R m) (r : RepL B.K F m ds vs) (z : ds.length ≤ sizeLine) (q : QD ds G) :
    ∀ p, H p = none → Q (.ref p) (upd H p (.lst vs)) := fun p hp => by
  -- laid privately, then given up
  have J := (I.prv hp (.lst vs)).prvDrop (R' := R) (same_upd (I.noR hp))
  exact h ds G p vs _ F m J (Same.refl _) (List.prefix_refl _) upd_same (I.noF hp) (I.noR hp) (I.nomem hp) r z q

/-! ### arithmetic -/
def mulOk (i j : Int) : Prop := CMul i j ∨ CMulW i j
def addD : DOp2
  | .int i, .int j, G, Q => Q (.int (i + j)) G
  | .str x, .str y, G, Q => x.length + y.length ≤ sizeLine ∧ Q (.str (x ++ y)) G
  | .tup xs, .tup ys, G, Q => xs.length + ys.length ≤ sizeLine ∧ Q (.tup (xs ++ ys)) G
  | _, _, _, _ => False
def subD : DOp2
  | .int i, .int j, G, Q => Q (.int (i - j)) G
  | _, _, _, _ => False
def mulD : DOp2
  | .int i, .int j, G, Q => mulOk i j ∧ Q (.int (i * j)) G
  | .tup xs, .int k, G, Q => xs ≠ [] ∧ 2 ≤ k ∧ k ≤ 1000 ∧ xs.length ≤ 1000 ∧ Q (.tup (List.replicate k.toNat xs).flatten) G
  | _, _, _, _ => False
def divD : DOp2
  | .int i, .int j, G, Q => (0 < j ∧ CDivW i j ∧ Q (.int (i / j)) G) ∨ (CDivN i j ∧ Q (.int (i.fdiv j)) G)
  | _, _, _, _ => False
def modD : DOp2
  | .int i, .int j, G, Q => (0 < j ∧ Q (.int (i % j)) G) ∨ (j ≠ 0 ∧ Q (.int (i.fmod j)) G)
  | _, _, _, _ => False
def powD : DOp2
  | .int i, .int j, G, Q => CPow i j ∧ Q (.int (i ^ j.toNat)) G
  | _, _, _, _ => False
def shrD : DOp2
  | .int i, .int j, G, Q => 0 ≤ j ∧ Q (.int (i / 2 ^ j.toNat)) G
  | _, _, _, _ => False
section
variable {B : Bx} {X : Cx}
theorem opd_add (hK : X.K = B.K) : OpD B X (binaryOp .Add) addD := by
  refine ⟨_, (op_add.or op_add_str).or op_catF, fun x y v u H G F R m QD Q I rx ry h post => ?_⟩
  match x, y, h with
  | .int i, .int j, h => cases rx.isInt; cases ry.isInt; exact .inl (.inl ⟨i, j, rfl, rfl, post.now I (.int _) h⟩)
  | .str i, .str j, h => cases rx.isStr; cases ry.isStr; exact .inl (.inr ⟨i, j, rfl, rfl, h.1, post.now I (.str _) h.2⟩)
  | .tup xs, .tup ys, h =>
    obtain ⟨p, vs, rfl, t1, l1, z1⟩ := rx.isTup
    obtain ⟨q, us, rfl, t2, l2, z2⟩ := ry.isTup
    have e1 := l1.length
    have e2 := l2.length
    refine .inr ⟨p, q, vs, us, rfl, rfl, ?_, ?_, by rw [← e1, ← e2]; exact h.1, fun e => ?_, fun _ e => ?_, fun _ _ => ?_⟩
    · rw [hK]; exact sqT_mono I.subF t1.1
    · rw [hK]; exact sqT_mono I.subF t2.1
    · subst e
      cases l1
      exact post.now I (.tup t2 l2 z2) h.2
    · subst e
      cases l2
      refine post.now I (.tup t1 l1 z1) (by have := h.2; rwa [List.append_nil] at this)
    · exact post.newTup I (l1.append l2) (by rw [List.length_append]; exact h.1) h.2
theorem opd_int {f : Value → Value → Sem Value} {C : Int → Int → Prop} {g : Int → Int → Int} {rD : DOp2} (h : OpR X f (rI C fun i j => .int (g i j)))
    (hd : ∀ x y G Q, rD x y G Q → ∃ i j, x = .int i ∧ y = .int j ∧ C i j ∧ Q (.int (g i j)) G) : OpD B X f rD := by
  refine ⟨_, h, fun x y v u H G F R m QD Q I rx ry h post => ?_⟩
  obtain ⟨i, j, rfl, rfl, c, q⟩ := hd _ _ _ _ h
  cases rx.isInt; cases ry.isInt
  exact ⟨i, j, rfl, rfl, c, post.now I (.int _) q⟩
theorem opd_sub : OpD B X (binaryOp .Sub) subD := by
  refine ⟨_, op_sub, fun x y v u H G F R m QD Q I rx ry h post => ?_⟩
  match x, y, h with
  | .int i, .int j, h => cases rx.isInt; cases ry.isInt; exact ⟨i, j, rfl, rfl, post.now I (.int _) h⟩
theorem opd_mul (hK : X.K = B.K) : OpD B X (binaryOp .Mult) mulD := by
  refine ⟨_, (op_mul.or op_mulW).or op_repF, fun x y v u H G F R m QD Q I rx ry h post => ?_⟩
  match x, y, h with
  | .int i, .int j, h =>
    cases rx.isInt; cases ry.isInt
    rcases h.1 with c | c
    · exact .inl (.inl ⟨i, j, rfl, rfl, c, post.now I (.int _) h.2⟩)
    · exact .inl (.inr ⟨i, j, rfl, rfl, c, post.now I (.int _) h.2⟩)
  | .tup xs, .int k, h =>
    obtain ⟨p, vs, rfl, t1, l1, z1⟩ := rx.isTup
    cases ry.isInt
    obtain ⟨h0, h1, h2, h3, q⟩ := h
    have e := l1.length
    refine .inr ⟨p, k, vs, rfl, rfl, by rw [hK]; exact sqT_mono I.subF t1.1, fun w => h0 (by subst w; cases l1; rfl), h1, h2, by rw [← e]; exact h3, post.newTup I (l1.rep k.toNat) ?_ q⟩
    have := Nat.mul_le_mul (show k.toNat ≤ 1000 by omega) h3
    rw [List.length_flatten, List.map_replicate, List.sum_replicate_nat, sizeLine_eq]
    omega
theorem opd_div : OpD B X (binaryOp .FloorDiv) divD := by
  refine ⟨_, op_fdivW.or op_fdivN, fun x y v u H G F R m QD Q I rx ry h post => ?_⟩
  match x, y, h with
  | .int i, .int j, h =>
    cases rx.isInt; cases ry.isInt
    rcases h with ⟨_, c, q⟩ | ⟨c, q⟩
    · exact .inl ⟨i, j, rfl, rfl, c, post.now I (.int _) q⟩
    · exact .inr ⟨i, j, rfl, rfl, c, post.now I (.int _) q⟩
theorem opd_mod : OpD B X (binaryOp .Mod) modD := opd_int op_modN fun x y G Q h => by
  match x, y, h with
  | .int i, .int j, .inl h => exact ⟨i, j, rfl, rfl, by omega, by rw [Int.fmod_eq_emod_of_nonneg _ (by omega)]; exact h.2⟩
  | .int i, .int j, .inr h => exact ⟨i, j, rfl, rfl, h.1, h.2⟩
theorem opd_pow : OpD B X (binaryOp .Pow) powD := opd_int op_pow fun x y G Q h => by
  match x, y, h with
  | .int i, .int j, h => exact ⟨i, j, rfl, rfl, h.1, h.2⟩
theorem opd_shr : OpD B X (binaryOp .RShift) shrD := opd_int op_shr fun x y G Q h => by
  match x, y, h with
  | .int i, .int j, h => exact ⟨i, j, rfl, rfl, h.1, h.2⟩
/-- list + list -/
def catN : DOpN := fun x y G Q => ∃ xs ys, view G x = .fl xs ∧ view G y = .fl ys ∧ xs.length + ys.length ≤ sizeLine ∧ Q (xs ++ ys) G
theorem opn_cat : OpN B X (binaryOp .Add) catN := by
  refine ⟨_, op_cat, fun x y v u H G F R m QD Q I rx ry h post => ?_⟩
  obtain ⟨xs, ys, e1, e2, z, q⟩ := h
  obtain ⟨p, vs, rfl, h1, l1, z1⟩ := I.list' rx e1
  obtain ⟨p2, us, rfl, h2, l2, z2⟩ := I.list' ry e2
  refine ⟨p, p2, vs, us, rfl, rfl, h1, h2, by rw [← l1.length, ← l2.length]; exact z, post.new I (l1.append l2) (by rw [List.length_append]; exact z) q⟩
/-- list * int -/
def repN : DOpN := fun x y G Q => ∃ xs k, view G x = .fl xs ∧ y = .int k ∧ -(2 ^ 63) ≤ k ∧ k < 2 ^ 63 ∧ xs.length * k.toNat ≤ sizeLine ∧ Q (List.replicate k.toNat xs).flatten G
theorem opn_rep : OpN B X (binaryOp .Mult) repN := by
  refine ⟨_, op_rep, fun x y v u H G F R m QD Q I rx ry h post => ?_⟩
  obtain ⟨xs, k, e1, rfl, k1, k2, z, q⟩ := h
  obtain ⟨p, vs, rfl, h1, l1, z1⟩ := I.list' rx e1
  cases ry.isInt
  refine ⟨p, k, vs, rfl, rfl, h1, k1, k2, by rw [← l1.length]; exact z, post.new I (l1.rep k.toNat) ?_ q⟩
  rw [List.length_flatten, List.map_replicate, List.sum_replicate_nat, Nat.mul_comm]
  exact z
end
end DL

/-! DLc: comparisons, tests, displays, subscripts, slices. -/
namespace DL
open PySem PySem.Spec PyProof.Rows L2

/-! ### == at any depth -/
mutual
def toP : D → PyData
  | .non => .none
  | .bl b => .bool b
  | .int i => .int i
  | .str x => .str x
  | .tup xs => .tuple (toPs xs)
  | .tw _ => .dict []
  | .fl xs => .list (toPs xs)
  | .sl xs => .list (toPs xs)
  | .ty _ => .dict []
  | .fd => .dict []
  | .ref _ => .dict []
def toPs : List D → List PyData
  | [] => []
  | x :: xs => toP x :: toPs xs
end
mutual
theorem rep_dp {K : PySem.W.Frag} {H : Hp} {m : List Addr} : ∀ {d : D} {v : V}, Rep K H m d v → PyData.canLay0 (toP d) = true → Dp K H v (toP d)
  | _, _, .non, _ => .non
  | _, _, .bl b, _ => .bl b
  | _, _, .int i, _ => .int i
  | _, _, .str x, _ => .str x
  | _, _, .tw h r _, z => by simp [toP, PyData.canLay0] at z
  | _, _, .tup h r _, z => .tup h.1 (repL_dp r (by simpa [toP, PyData.canLay0] using z))
  | _, _, .fl h r _, z => .lst (.inl (.inl h)) (repL_dp r (by simpa [toP, PyData.canLay0] using z))
  | _, _, .sl h r _, z => .lst h (repL_dp r (by simpa [toP, PyData.canLay0] using z))
  | _, _, .ty _, z => by simp [toP, PyData.canLay0] at z
  | _, _, .fd _, z => by simp [toP, PyData.canLay0] at z
  | _, _, .ref _, z => by simp [toP, PyData.canLay0] at z
theorem repL_dp {K : PySem.W.Frag} {H : Hp} {m : List Addr} : ∀ {ds : List D} {vs : List V}, RepL K H m ds vs → PyData.canLayAll0 (toPs ds) = true → DpAll K H vs (toPs ds)
  | _, _, .nil, _ => .nil
  | d :: ds, _, .cons r t, z => by
    have z' : PyData.canLay0 (toP d) = true ∧ PyData.canLayAll0 (toPs ds) = true := by simpa only [toPs, PyData.canLayAll0, Bool.and_eq_true] using z
    exact .cons (rep_dp r z'.1) (repL_dp t z'.2)
end
/-- what == takes -/
def okD (d : D) : Prop := SeqAt.shaped (toP d) = true
def eqD (x y : D) : Bool := PyData.eqv (toP x) (toP y)
theorem view_val {G : DHp} {d : D} (h : okD (view G d)) : (view G d).isVal = true := by
  cases e : view G d with
  | ref i => rw [e] at h; cases h
  | _ => rfl
def unlike (G : DHp) (x y : D) : Prop := ∃ xs ys, listOf G x = some xs ∧ listOf G y = some ys ∧ xs.length ≠ ys.length
def eqG : DOp2 := fun x y G Q => (okD (view G x) ∧ okD (view G y) ∧ Q (.bl (eqD (view G x) (view G y))) G) ∨ (unlike G x y ∧ Q (.bl false) G)
def neG : DOp2 := fun x y G Q => (okD (view G x) ∧ okD (view G y) ∧ Q (.bl (!eqD (view G x) (view G y))) G) ∨ (unlike G x y ∧ Q (.bl true) G)
/-- == of ints, with [], of others -/
def eqR : DOp2 := fun x y G Q => match x, y with
  | .int i, .int j => Q (.bl (decide (i = j))) G
  | x, .fl [] => (match listOf G x with
    | some xs => Q (.bl xs.isEmpty) G
    | none => eqG x (.fl []) G Q)
  | x, y => eqG x y G Q
def neR : DOp2 := fun x y G Q => match x, y with
  | .int i, .int j => Q (.bl (!decide (i = j))) G
  | x, .fl [] => (match listOf G x with
    | some xs => Q (.bl (!xs.isEmpty)) G
    | none => neG x (.fl []) G Q)
  | x, y => neG x y G Q
theorem empty_list {G : DHp} {x : D} (h : listOf G x = some []) : okD (view G x) ∧ eqD (view G x) (.fl []) = true := by
  unfold listOf at h
  split at h
  · rename_i xs e; cases h; rw [e]; exact ⟨rfl, rfl⟩
  · rename_i xs e; cases h; rw [e]; exact ⟨rfl, rfl⟩
  · cases h
theorem eqR_G {x y : D} {G : DHp} {Q : DK} (h : eqR x y G Q) : eqG x y G Q := by
  unfold eqR at h
  split at h
  · refine .inl ⟨rfl, rfl, ?_⟩
    show Q (.bl (PyData.eqv (.int _) (.int _))) G
    simp only [PyData.eqv]
    exact h
  · split at h
    · rename_i xs e
      cases xs with
      | nil => exact .inl ⟨(empty_list e).1, rfl, by rw [show view G (.fl []) = .fl [] from rfl, (empty_list e).2]; exact h⟩
      | cons a l => exact .inr ⟨⟨_, _, e, rfl, by simp⟩, h⟩
    · exact h
  · exact h
theorem neR_G {x y : D} {G : DHp} {Q : DK} (h : neR x y G Q) : neG x y G Q := by
  unfold neR at h
  split at h
  · refine .inl ⟨rfl, rfl, ?_⟩
    show Q (.bl (!PyData.eqv (.int _) (.int _))) G
    simp only [PyData.eqv]
    exact h
  · split at h
    · rename_i xs e
      cases xs with
      | nil => exact .inl ⟨(empty_list e).1, rfl, by rw [show view G (.fl []) = .fl [] from rfl, (empty_list e).2]; exact h⟩
      | cons a l => exact .inr ⟨⟨_, _, e, rfl, by simp⟩, h⟩
    · exact h
  · exact h
section
variable {B : Bx} {X : Cx}
theorem dp_of {F R H : Hp} {m : List Addr} {G : DHp} (I : HRel B H G F R m) {d : D} {v : V} (r : Rep B.K F m d v) (h : okD (view G d)) : Dp B.K H v (toP (view G d)) :=
  rep_dp (I.view r (view_val h)) (SeqAt.canLay_of_shaped h)
theorem opd_eq (hK : X.K = B.K) (hu : X.A.units + 64 < cLine) : OpD B X (compareOp .Eq) eqR := by
  refine ⟨_, (op_eqD hu).or (op_eqL (by omega)), fun x y v u H G F R m QD Q I rx ry h post => ?_⟩
  rcases eqR_G h with ⟨h1, h2, q⟩ | ⟨⟨xs, ys, e1, e2, hne⟩, q⟩
  rotate_left
  · obtain ⟨a, vs, rfl, t1, l1, _⟩ := I.list rx e1
    obtain ⟨b, us, rfl, t2, l2, _⟩ := I.list ry e2
    exact .inr ⟨a, b, vs, us, rfl, rfl, by rw [hK]; exact t1, by rw [hK]; exact t2, by rw [← l1.length, ← l2.length]; exact hne, post.now I (.bl _) q⟩
  exact .inl ⟨_, _, by rw [hK]; exact dp_of I rx h1, by rw [hK]; exact dp_of I ry h2, h1, h2, post.now I (.bl _) q⟩
theorem opd_ne (hK : X.K = B.K) (hu : X.A.units + 64 < cLine) : OpD B X (compareOp .NotEq) neR := by
  refine ⟨_, (op_neD hu).or (op_neL (by omega)), fun x y v u H G F R m QD Q I rx ry h post => ?_⟩
  rcases neR_G h with ⟨h1, h2, q⟩ | ⟨⟨xs, ys, e1, e2, hne⟩, q⟩
  rotate_left
  · obtain ⟨a, vs, rfl, t1, l1, _⟩ := I.list rx e1
    obtain ⟨b, us, rfl, t2, l2, _⟩ := I.list ry e2
    exact .inr ⟨a, b, vs, us, rfl, rfl, by rw [hK]; exact t1, by rw [hK]; exact t2, by rw [← l1.length, ← l2.length]; exact hne, post.now I (.bl _) q⟩
  exact .inl ⟨_, _, by rw [hK]; exact dp_of I rx h1, by rw [hK]; exact dp_of I ry h2, h1, h2, post.now I (.bl _) q⟩
/-! ### order -/
def intsOf : List D → Option (List Int)
  | [] => some []
  | .int i :: r => (intsOf r).map (i :: ·)
  | _ :: _ => none
theorem intsOf_some : ∀ {ds : List D} {ns : List Int}, intsOf ds = some ns → ds = ns.map D.int
  | [], ns, h => by cases h; rfl
  | d :: r, ns, h => by
    unfold intsOf at h
    split at h
    · rename_i heq; cases heq
    · rename_i i r' heq
      cases heq
      cases e : intsOf r with
      | none => rw [e] at h; cases h
      | some ms =>
        rw [e] at h
        cases h
        rw [intsOf_some e]; rfl
    · cases h
theorem intsOf_map : ∀ (ns : List Int), intsOf (ns.map D.int) = some ns
  | [] => rfl
  | n :: r => by rw [List.map_cons, intsOf, intsOf_map r]; rfl
def ltR : DOp2
  | .int i, .int j, G, Q => Q (.bl (decide (i < j))) G
  | .tup xs, .tup ys, G, Q => ∃ ns ms, xs = ns.map D.int ∧ ys = ms.map D.int ∧ Q (.bl (HT.lexLt ns ms)) G
  | _, _, _, _ => False
def leR : DOp2
  | .int i, .int j, G, Q => Q (.bl (decide (i ≤ j))) G
  | _, _, _, _ => False
def gtR : DOp2
  | .int i, .int j, G, Q => Q (.bl (decide (j < i))) G
  | _, _, _, _ => False
def geR : DOp2
  | .int i, .int j, G, Q => Q (.bl (decide (j ≤ i))) G
  | _, _, _, _ => False
theorem opd_ints {f : Value → Value → Sem Value} {g : Int → Int → Bool} {rD : DOp2} (h : OpR X f (rI0 fun i j => .bl (g i j)))
    (hd : ∀ x y G Q, rD x y G Q → ∃ i j, x = .int i ∧ y = .int j ∧ Q (.bl (g i j)) G) : OpD B X f rD := by
  refine ⟨_, h, fun x y v u H G F R m QD Q I rx ry h post => ?_⟩
  obtain ⟨i, j, rfl, rfl, q⟩ := hd _ _ _ _ h
  cases rx.isInt; cases ry.isInt
  exact ⟨i, j, rfl, rfl, post.now I (.bl _) q⟩
theorem opd_lt (hK : X.K = B.K) (hu : X.A.units < cLine) : OpD B X (compareOp .Lt) ltR := by
  refine ⟨_, op_lt.or (op_ltT hu), fun x y v u H G F R m QD Q I rx ry h post => ?_⟩
  match x, y, h with
  | .int i, .int j, h => cases rx.isInt; cases ry.isInt; exact .inl ⟨i, j, rfl, rfl, post.now I (.bl _) h⟩
  | .tup xs, .tup ys, h =>
    obtain ⟨ns, ms, rfl, rfl, q⟩ := h
    obtain ⟨p, vs, rfl, t1, l1, z1⟩ := rx.isTup
    obtain ⟨p2, us, rfl, t2, l2, z2⟩ := ry.isTup
    cases l1.ints; cases l2.ints
    exact .inr ⟨p, p2, ns, ms, rfl, rfl, by rw [hK]; exact sqT_mono I.subF t1.1, by rw [hK]; exact sqT_mono I.subF t2.1, post.now I (.bl _) q⟩
theorem opd_le : OpD B X (compareOp .LtE) leR := opd_ints op_le fun x y G Q h => by
  match x, y, h with
  | .int i, .int j, h => exact ⟨i, j, rfl, rfl, h⟩
theorem opd_gt : OpD B X (compareOp .Gt) gtR := opd_ints op_gt fun x y G Q h => by
  match x, y, h with
  | .int i, .int j, h => exact ⟨i, j, rfl, rfl, h⟩
theorem opd_ge : OpD B X (compareOp .GtE) geR := opd_ints op_ge fun x y G Q h => by
  match x, y, h with
  | .int i, .int j, h => exact ⟨i, j, rfl, rfl, h⟩
/-! ### is -/
def isR : DOp2
  | .bl a, .bl b, G, Q => Q (.bl (decide (a = b))) G
  | x, .non, G, Q => Q (.bl (match x with | .non => true | _ => false)) G
  | _, _, _, _ => False
def isntR : DOp2
  | .bl a, .bl b, G, Q => Q (.bl (!decide (a = b))) G
  | x, .non, G, Q => Q (.bl (match x with | .non => false | _ => true)) G
  | _, _, _, _ => False
def D.isNon : D → Bool
  | .non => true
  | _ => false
theorem rep_non {F : Hp} {m : List Addr} {x : D} {v : V} (r : Rep B.K F m x v) : decide (v = .non) = x.isNon := by
  cases r <;> simp [D.isNon]
theorem opd_is : OpD B X (compareOp .Is) isR := by
  refine ⟨_, op_isBl.or op_isN, fun x y v u H G F R m QD Q I rx ry h post => ?_⟩
  cases y with
  | non =>
    cases ry.isNon
    refine .inr ⟨rfl, post.now I (.bl _) ?_⟩
    rw [rep_non rx]
    cases x <;> exact h
  | bl b =>
    cases x with
    | bl a => cases rx.isBl; cases ry.isBl; exact .inl ⟨a, b, rfl, rfl, post.now I (.bl _) h⟩
    | _ => exact False.elim h
  | _ => cases x <;> exact False.elim h
theorem opd_isnt : OpD B X (compareOp .IsNot) isntR := by
  refine ⟨_, op_notBl.or op_notN, fun x y v u H G F R m QD Q I rx ry h post => ?_⟩
  cases y with
  | non =>
    cases ry.isNon
    refine .inr ⟨rfl, post.now I (.bl _) ?_⟩
    rw [rep_non rx]
    cases x <;> exact h
  | bl b =>
    cases x with
    | bl a => cases rx.isBl; cases ry.isBl; exact .inl ⟨a, b, rfl, rfl, post.now I (.bl _) h⟩
    | _ => exact False.elim h
  | _ => cases x <;> exact False.elim h
/-! ### in -/
/-- None, bools, ints, texts -/
def flatD : D → Bool
  | .non => true
  | .bl _ => true
  | .int _ => true
  | .str _ => true
  | _ => false
/-- a list's or a tuple's items -/
def itemsOf (G : DHp) (d : D) : Option (List D) := match d with
  | .tup xs => some xs
  | d => listOf G d
def memD (x : D) (xs : List D) : Bool := xs.any fun y => eqD y x
def inR (neg : Bool) : DOp2 := fun x y G Q => match x, y with
  | .str a, .str b => Q (.bl (if neg then !(!(Builtin.Str.occurrences b a 0 b.length 1).isEmpty) else !(Builtin.Str.occurrences b a 0 b.length 1).isEmpty)) G
  | x, y => ∃ xs, itemsOf G y = some xs ∧
    ((flatD x = true ∧ xs.all flatD = true) ∨ (okD (view G x) ∧ okD (.fl xs) ∧ listOf G y = some xs)) ∧ Q (.bl (if neg then !memD (view G x) xs else memD (view G x) xs)) G
theorem rep_flat {F : Hp} {m : List Addr} {d : D} {v : V} (r : Rep B.K F m d v) (h : flatD d = true) : flatV v = true ∧ (∀ e w, Rep B.K F m e w → flatD e = true → eqV w v = eqD e d) := by
  cases r <;> first
    | (refine ⟨rfl, fun e w r2 h2 => ?_⟩
       cases r2 <;> first
         | rfl
         | (simp [eqV, eqD, toP, PyData.eqv]; done)
         | exact absurd h2 Bool.false_ne_true)
    | exact absurd h Bool.false_ne_true
theorem all_flat {F : Hp} {m : List Addr} : ∀ {ds : List D} {vs : List V}, RepL B.K F m ds vs → ds.all flatD = true → vs.all flatV = true ∧ ∀ d v, Rep B.K F m d v → flatD d = true → inV v vs = memD d ds
  | _, _, .nil, _ => ⟨rfl, fun _ _ _ _ => rfl⟩
  | _, _, .cons (d := e) (v := w) r t, h => by
    rw [List.all_cons, Bool.and_eq_true] at h
    obtain ⟨h1, h2⟩ := all_flat t h.2
    obtain ⟨g1, g2⟩ := rep_flat (B := B) r h.1
    refine ⟨by rw [List.all_cons, g1, h1]; rfl, fun d v q hq => ?_⟩
    obtain ⟨_, k⟩ := rep_flat (B := B) q hq
    show (eqV w v || inV v _) = (eqD e d || memD d _)
    rw [h2 d v q hq]
    congr 1
    exact g2' r q h.1 hq
where
  g2' {F : Hp} {m : List Addr} {e d : D} {w v : V} (r : Rep B.K F m e w) (q : Rep B.K F m d v) (h : flatD e = true) (hq : flatD d = true) : eqV w v = eqD e d := by
    cases r <;> first
      | exact absurd h Bool.false_ne_true
      | (cases q <;> first
          | exact absurd hq Bool.false_ne_true
          | rfl
          | (simp [eqV, eqD, toP, PyData.eqv]; done))
theorem items_of {F R H : Hp} {m : List Addr} {G : DHp} (I : HRel B H G F R m) {d : D} {v : V} {xs : List D} (r : Rep B.K F m d v) (h : itemsOf G d = some xs) :
    ∃ p vs, v = .ref p ∧ (SqL B.K H p vs ∨ SqT B.K H p vs) ∧ RepL B.K F m xs vs ∧ xs.length ≤ sizeLine := by
  cases d with
  | tup ys =>
    cases h
    obtain ⟨p, vs, e, t, l, z⟩ := r.isTup
    exact ⟨p, vs, e, .inr (sqT_mono I.subF t.1), l, z⟩
  | _ =>
    obtain ⟨p, vs, e, t, l, z⟩ := I.list r h
    exact ⟨p, vs, e, .inl t, l, z⟩
theorem memD_eqv (d : D) : ∀ xs : List D, ((toPs xs).any fun z => PyData.eqv z (toP d)) = memD d xs
  | [] => rfl
  | x :: xs => by
    show (PyData.eqv (toP x) (toP d) || (toPs xs).any _) = (eqD x d || memD d xs)
    rw [memD_eqv d xs]; rfl
theorem flat_view {G : DHp} {x : D} (h : flatD x = true) : DL.view G x = x := by cases x <;> first | rfl | exact absurd h Bool.false_ne_true
theorem in_core {F R H : Hp} {m : List Addr} {G : DHp} (I : HRel B H G F R m) {x y : D} {v u : V} {xs : List D} (rx : Rep B.K F m x v) (ry : Rep B.K F m y u) (e : itemsOf G y = some xs)
    (h : (flatD x = true ∧ xs.all flatD = true) ∨ (okD (DL.view G x) ∧ okD (.fl xs) ∧ listOf G y = some xs)) :
    (∃ p vs, u = .ref p ∧ (SqL B.K H p vs ∨ SqT B.K H p vs) ∧ flatV v = true ∧ vs.all flatV = true ∧ inV v vs = memD (DL.view G x) xs) ∨
    ∃ d ds, Dp B.K H v d ∧ Dp B.K H u (.list ds) ∧ SeqAt.shaped d = true ∧ SeqAt.shaped (.list ds) = true ∧ (ds.any fun z => PyData.eqv z d) = memD (DL.view G x) xs := by
  rcases h with ⟨h1, h2⟩ | ⟨h1, h2, h3⟩
  · obtain ⟨p, vs, e1, t, l, z⟩ := items_of I ry e
    have rx' : Rep B.K F m x v := rx
    obtain ⟨k1, k2⟩ := all_flat l h2
    exact .inl ⟨p, vs, e1, t, (rep_flat (B := B) rx' h1).1, k1, by rw [flat_view h1]; exact k2 x v rx' h1⟩
  · obtain ⟨p, vs, e1, t, l, z⟩ := I.list ry h3
    subst e1
    refine .inr ⟨_, toPs xs, dp_of I rx h1, ?_, h1, h2, memD_eqv _ _⟩
    have h2' := SeqAt.canLay_of_shaped h2
    exact .lst t (repL_dp (l.mono I.subF (List.prefix_refl _)) (by simpa [toP, PyData.canLay0] using h2'))
theorem opd_in (hK : X.K = B.K) (hu : X.A.units + 65 < cLine) : OpD B X (compareOp .In) (inR false) := by
  refine ⟨_, op_in_str.or (op_in_seq.or (op_inD hu)), fun x y v u H G F R m QD Q I rx ry h post => ?_⟩
  have go : (∃ xs, itemsOf G y = some xs ∧ ((flatD x = true ∧ xs.all flatD = true) ∨ (okD (DL.view G x) ∧ okD (.fl xs) ∧ listOf G y = some xs)) ∧ QD (.bl (memD (DL.view G x) xs)) G) →
      (∃ i j, v = .str i ∧ u = .str j ∧ Q (.bl (!(Builtin.Str.occurrences j i 0 j.length 1).isEmpty)) H) ∨ (rIn X.K false v u H Q ∨ rInD X.K v u H Q) := fun ⟨xs, e, h, q⟩ => by
    rcases in_core I rx ry e h with ⟨p, vs, e1, t, f1, f2, k⟩ | ⟨d, ds, h1, h2, s1, s2, k⟩
    · refine .inr (.inl ⟨p, vs, e1, by rw [hK]; exact t, f1, f2, ?_⟩)
      rw [if_neg (by decide), k]
      exact post.now I (.bl _) q
    · refine .inr (.inr ⟨d, ds, by rw [hK]; exact h1, by rw [hK]; exact h2, s1, s2, ?_⟩)
      rw [k]
      exact post.now I (.bl _) q
  unfold inR at h
  split at h
  · cases rx.isStr; cases ry.isStr
    exact .inl ⟨_, _, rfl, rfl, post.now I (.bl _) h⟩
  · exact go h
theorem opd_notin (hK : X.K = B.K) (hu : X.A.units + 65 < cLine) : OpD B X (compareOp .NotIn) (inR true) := by
  refine ⟨_, op_notin_str.or (op_notIn_seq.or (op_notInD hu)), fun x y v u H G F R m QD Q I rx ry h post => ?_⟩
  have go : (∃ xs, itemsOf G y = some xs ∧ ((flatD x = true ∧ xs.all flatD = true) ∨ (okD (DL.view G x) ∧ okD (.fl xs) ∧ listOf G y = some xs)) ∧ QD (.bl (!memD (DL.view G x) xs)) G) →
      (∃ i j, v = .str i ∧ u = .str j ∧ Q (.bl (!(!(Builtin.Str.occurrences j i 0 j.length 1).isEmpty))) H) ∨ (rIn X.K true v u H Q ∨ rNotInD X.K v u H Q) := fun ⟨xs, e, h, q⟩ => by
    rcases in_core I rx ry e h with ⟨p, vs, e1, t, f1, f2, k⟩ | ⟨d, ds, h1, h2, s1, s2, k⟩
    · refine .inr (.inl ⟨p, vs, e1, by rw [hK]; exact t, f1, f2, ?_⟩)
      rw [if_pos rfl, k]
      exact post.now I (.bl _) q
    · refine .inr (.inr ⟨d, ds, by rw [hK]; exact h1, by rw [hK]; exact h2, s1, s2, ?_⟩)
      rw [k]
      exact post.now I (.bl _) q
  unfold inR at h
  split at h
  · cases rx.isStr; cases ry.isStr
    exact .inl ⟨_, _, rfl, rfl, post.now I (.bl _) h⟩
  · exact go h
end

/-! ### tests -/
/-- a value's truth -/
def truD (G : DHp) (d : D) (Q : Bool → Prop) : Prop := match view G d with
  | .bl b => Q b
  | .non => Q false
  | .int i => Q (i != 0)
  | .str x => x.length ≤ sizeLine ∧ Q ((x.length : Int) != 0)
  | .fl xs => Q (!xs.isEmpty)
  | .sl xs => Q (!xs.isEmpty)
  | .tup xs => Q (!xs.isEmpty)
  | _ => False
def dTru (ta : DTE) : DTT := fun ρ G Q => ta ρ G fun d G1 => truD G1 d fun b => Q b G1
def dAnd (ta tb : DTT) : DTT := fun ρ G Q => ta ρ G fun c G1 => br c (tb ρ G1 Q) (Q false G1)
def dOr (ta tb : DTT) : DTT := fun ρ G Q => ta ρ G fun c G1 => br c (Q true G1) (tb ρ G1 Q)
def dNot (ta : DTT) : DTT := fun ρ G Q => ta ρ G fun c G1 => Q (!c) G1
def isBl (d : D) (k : Bool → Prop) : Prop := match d with
  | .bl b => k b
  | _ => False
def dIsB (ta : DTE) : DTT := fun ρ G Q => ta ρ G fun d G1 => isBl d fun b => Q b G1
def dAndV (ta tb : DTE) : DTE := fun ρ G Q => ta ρ G fun x G1 => isBl x fun c => br c (tb ρ G1 Q) (Q (.bl false) G1)
def dOrV (ta tb : DTE) : DTE := fun ρ G Q => ta ρ G fun x G1 => isBl x fun c => br c (Q (.bl true) G1) (tb ρ G1 Q)
def dNotV (ta : DTE) : DTE := fun ρ G Q => ta ρ G fun x G1 => isBl x fun c => Q (.bl (!c)) G1
theorem isBl_some {d : D} {k : Bool → Prop} (h : isBl d k) : ∃ b, d = .bl b ∧ k b := by
  cases d with
  | bl b => exact ⟨b, rfl, h⟩
  | _ => exact h.elim
section
variable {X : Cx} {B : Bx} {a b c : Expr} {ta tb tc : DTE} {uA uB : DTT} {pos : Pos} {rest : List Expr}
theorem tru_of {F R H : Hp} {m : List Addr} {G : DHp} (I : HRel B H G F R m) {d : D} {v : V} {Q : Bool → Prop} (r : Rep B.K F m d v) (h : truD G d Q) : ∃ k, TruV B.K v H k ∧ Q k := by
  unfold truD at h
  have hv : (DL.view G d).isVal = true := by cases e : DL.view G d <;> first | rfl | (rw [e] at h; exact h.elim)
  have r' := I.view r hv
  generalize DL.view G d = d' at h hv r'
  cases r' with
  | non => exact ⟨false, rfl, h⟩
  | bl b => exact ⟨b, rfl, h⟩
  | int i => exact ⟨_, rfl, h⟩
  | str x => exact ⟨_, ⟨h.1, rfl⟩, h.2⟩
  | ty n => exact h.elim
  | fd z => exact h.elim
  | ref z => exact h.elim
  | tw h1 h2 z => exact h.elim
  | tup h1 h2 z => exact ⟨_, .inr (.inl ⟨_, h1.1, by cases h2 <;> rfl⟩), h⟩
  | fl h1 h2 z => exact ⟨_, .inl ⟨_, .inl (.inl h1), by cases h2 <;> rfl⟩, h⟩
  | sl h1 h2 z => exact ⟨_, .inl ⟨_, h1, by cases h2 <;> rfl⟩, h⟩
theorem dt_tru (hK : X.K = B.K) (ha : PE X a (liftE B ta)) (he : ∀ whole, isTrue a X.env whole = (do let v ← whole; standAt a.pos; holding [v] (truthy v))) : PT X a (liftT B (dTru ta)) := by
  refine PT.imp (pt_truth ha he) fun σ H Q ⟨ρ, G, F, R, m, QD, I, t, post⟩ => ?_
  refine ⟨ρ, G, F, R, m, _, I, t, fun d G1 v H1 F1 m1 J s p r q => ?_⟩
  obtain ⟨k, h1, h2⟩ := tru_of J r q
  exact ⟨k, by rw [hK]; exact h1, post k G1 H1 F1 m1 J s p h2⟩
/-- a comparison as a test -/
theorem dt_cmp {op : CmpOp} {rD : DOp2} (ho : OpD B X (compareOp op) rD) (hm : behindInMarks op b = false) (ha : PE X a (liftE B ta)) (hb : PE X b (liftE B tb)) :
    PT X (.Compare a [op] [b] pos) (liftT B (dIsB (dOp rD ta tb))) := by
  obtain ⟨r, h1, h2⟩ := ho
  refine PT.imp (pt_cmpR h1 ha hb hm) fun σ H Q ⟨ρ, G, F, R, m, QD, I, t, post⟩ => ?_
  refine bin_ok (rr := fun v u H2 => r v u H2 fun x H' => ∃ k, x = .bl k ∧ Q k H') I t fun x y v u G' H' F' m' J s p rx ry q => ?_
  refine h2 x y v u H' G' F' R m' _ _ J rx ry q fun d G2 w H2 F2 m2 J2 s2 p2 rw q2 => ?_
  obtain ⟨k, rfl, q2⟩ := isBl_some q2
  cases rw.isBl
  exact ⟨k, rfl, post k G2 H2 F2 m2 J2 (s.trans s2) (prefix_trans p p2) q2⟩
theorem dw_and1 (ha : PT X a (liftT B uA)) : PW X (.BoolOp .And [a] pos) (liftT B uA) := pw_and1 ha
theorem dw_or1 (ha : PT X a (liftT B uA)) : PW X (.BoolOp .Or [a] pos) (liftT B uA) := pw_or1 ha
theorem dw_and (ha : PT X a (liftT B uA)) (hb : PW X (.BoolOp .And (b :: rest) pos) (liftT B uB)) : PW X (.BoolOp .And (a :: b :: rest) pos) (liftT B (dAnd uA uB)) :=
  PW.imp (pw_and ha hb) fun σ H Q ⟨ρ, G, F, R, m, QD, I, t, post⟩ => ⟨ρ, G, F, R, m, _, I, t, fun c G1 H1 F1 m1 J s p q => by
    cases c with
    | true => exact ⟨ρ, G1, F1, R, m1, _, I.of J s p, br_t.mp q, post.next s p⟩
    | false => exact post false G1 H1 F1 m1 J s p (br_f.mp q)⟩
theorem dw_or (ha : PT X a (liftT B uA)) (hb : PW X (.BoolOp .Or (b :: rest) pos) (liftT B uB)) : PW X (.BoolOp .Or (a :: b :: rest) pos) (liftT B (dOr uA uB)) :=
  PW.imp (pw_or ha hb) fun σ H Q ⟨ρ, G, F, R, m, QD, I, t, post⟩ => ⟨ρ, G, F, R, m, _, I, t, fun c G1 H1 F1 m1 J s p q => by
    cases c with
    | false => exact ⟨ρ, G1, F1, R, m1, _, I.of J s p, br_f.mp q, post.next s p⟩
    | true => exact post true G1 H1 F1 m1 J s p (br_t.mp q)⟩
theorem dt_not (ha : PT X a (liftT B uA)) : PT X (.UnaryOp .Not a pos) (liftT B (dNot uA)) :=
  PT.imp (pt_not ha) fun σ H Q ⟨ρ, G, F, R, m, QD, I, t, post⟩ => ⟨ρ, G, F, R, m, _, I, t, fun c G1 H1 F1 m1 J s p q => post (!c) G1 H1 F1 m1 J s p q⟩
theorem de_and (ha : PE X a (liftE B ta)) (hb : PE X (.BoolOp .And (b :: rest) pos) (liftE B tb)) : PE X (.BoolOp .And (a :: b :: rest) pos) (liftE B (dAndV ta tb)) :=
  PE.imp (pe_and ha hb) fun σ H Q ⟨ρ, G, F, R, m, QD, I, t, post⟩ => ⟨ρ, G, F, R, m, _, I, t, fun d G1 v H1 F1 m1 J s p r q => by
    obtain ⟨c, rfl, q⟩ := isBl_some q
    cases r.isBl
    refine ⟨c, rfl, ?_⟩
    cases c with
    | true => exact ⟨ρ, G1, F1, R, m1, _, I.of J s p, br_t.mp q, post.next s p⟩
    | false => exact post (.bl false) G1 _ H1 F1 m1 J s p (.bl _) (br_f.mp q)⟩
theorem de_or (ha : PE X a (liftE B ta)) (hb : PE X (.BoolOp .Or (b :: rest) pos) (liftE B tb)) : PE X (.BoolOp .Or (a :: b :: rest) pos) (liftE B (dOrV ta tb)) :=
  PE.imp (pe_or ha hb) fun σ H Q ⟨ρ, G, F, R, m, QD, I, t, post⟩ => ⟨ρ, G, F, R, m, _, I, t, fun d G1 v H1 F1 m1 J s p r q => by
    obtain ⟨c, rfl, q⟩ := isBl_some q
    cases r.isBl
    refine ⟨c, rfl, ?_⟩
    cases c with
    | false => exact ⟨ρ, G1, F1, R, m1, _, I.of J s p, br_f.mp q, post.next s p⟩
    | true => exact post (.bl true) G1 _ H1 F1 m1 J s p (.bl _) (br_t.mp q)⟩
theorem de_not (ha : PE X a (liftE B ta)) : PE X (.UnaryOp .Not a pos) (liftE B (dNotV ta)) :=
  PE.imp (pe_not ha) fun σ H Q ⟨ρ, G, F, R, m, QD, I, t, post⟩ => ⟨ρ, G, F, R, m, _, I, t, fun d G1 v H1 F1 m1 J s p r q => by
    obtain ⟨c, rfl, q⟩ := isBl_some q
    cases r.isBl
    exact ⟨c, rfl, post (.bl _) G1 _ H1 F1 m1 J s p (.bl _) q⟩⟩
/-- -a -/
def dNeg (ta : DTE) : DTE := fun ρ G Q => ta ρ G fun d G1 => match d with
  | .int i => Q (.int (-i)) G1
  | _ => False
theorem de_neg (ha : PE X a (liftE B ta)) : PE X (.UnaryOp .USub a pos) (liftE B (dNeg ta)) :=
  PE.imp (pe_un un_neg ha) fun σ H Q ⟨ρ, G, F, R, m, QD, I, t, post⟩ => ⟨ρ, G, F, R, m, _, I, t, fun d G1 v H1 F1 m1 J s p r q => by
    cases d with
    | int i => cases r.isInt; exact ⟨i, rfl, post (.int _) G1 _ H1 F1 m1 J s p (.int _) q⟩
    | _ => exact q.elim⟩
/-- a < b < c -/
def dChain (r r' : DOp2) (ta tb tc : DTE) : DTE := fun ρ G Q => ta ρ G fun x G1 => tb ρ G1 fun y G2 => r x y G2 fun z G3 => isBl z fun k => br k (tc ρ G3 fun w G4 => r' y w G4 Q) (Q (.bl false) G3)
theorem chain_ok {σ : L2.St} {H : Hp} {Q : VK} {ρ : DSt} {G : DHp} {F R : Hp} {m : List Addr} {QD : DK} {rD rD' : DOp2} {r r' : R2} (I : Rel B σ H ρ G F R m)
    (h : ∀ x y v u H G F R m QD Q, HRel B H G F R m → Rep B.K F m x v → Rep B.K F m y u → rD x y G QD → PostV B F R m QD Q → r v u H Q)
    (h' : ∀ x y v u H G F R m QD Q, HRel B H G F R m → Rep B.K F m x v → Rep B.K F m y u → rD' x y G QD → PostV B F R m QD Q → r' v u H Q)
    (t : dChain rD rD' ta tb tc ρ G QD) (post : PostV B F R m QD Q) : tChain r r' (liftE B ta) (liftE B tb) (liftE B tc) σ H Q := by
  refine bin_ok (rr := fun x y H2 => r x y H2 fun z H3 => ∃ k, z = .bl k ∧ (if k = true then liftE B tc σ H3 fun w' H4 => r' y w' H4 Q else Q (.bl false) H3)) I t fun x y v u G' H' F' m' J s p rx ry q => ?_
  refine h x y v u H' G' F' R m' _ _ J rx ry q fun d G2 w H2 F2 m2 J2 s2 p2 rw q2 => ?_
  obtain ⟨k, rfl, q2⟩ := isBl_some q2
  cases rw.isBl
  refine ⟨k, rfl, ?_⟩
  cases k with
  | false => exact post (.bl false) G2 _ H2 F2 m2 J2 (s.trans s2) (prefix_trans p p2) (.bl _) (br_f.mp q2)
  | true =>
    refine ⟨ρ, G2, F2, R, m2, _, I.of J2 (s.trans s2) (prefix_trans p p2), br_t.mp q2, fun e G3 z H3 F3 m3 J3 s3 p3 rz q3 => ?_⟩
    exact h' y e u z H3 G3 F3 R m3 QD Q J3 ((ry.mono s2 p2).mono s3 p3) rz q3 (post.next ((s.trans s2).trans s3) (prefix_trans (prefix_trans p p2) p3))
theorem de_chain {op op' : CmpOp} {rD rD' : DOp2} (ho : OpD B X (compareOp op) rD) (ho' : OpD B X (compareOp op') rD') (ha : PE X a (liftE B ta)) (hb : PE X b (liftE B tb)) (hc : PE X c (liftE B tc))
    (w : ∀ r r' ta tb tc, OpR X (compareOp op) r → OpR X (compareOp op') r' → PE X a ta → PE X b tb → PE X c tc → PE X (.Compare a [op, op'] [b, c] pos) (tChain r r' ta tb tc)) : PE X (.Compare a [op, op'] [b, c] pos) (liftE B (dChain rD rD' ta tb tc)) := by
  obtain ⟨r, h1, h2⟩ := ho
  obtain ⟨r', h1', h2'⟩ := ho'
  exact PE.imp (w _ _ _ _ _ h1 h1' ha hb hc) fun σ H Q ⟨ρ, G, F, R, m, QD, I, t, post⟩ => chain_ok I h2 h2' t post
theorem dt_chain {op op' : CmpOp} {rD rD' : DOp2} (ho : OpD B X (compareOp op) rD) (ho' : OpD B X (compareOp op') rD') (ha : PE X a (liftE B ta)) (hb : PE X b (liftE B tb)) (hc : PE X c (liftE B tc))
    (w : ∀ r r' ta tb tc, OpR X (compareOp op) r → OpR X (compareOp op') r' → PE X a ta → PE X b tb → PE X c tc → PT X (.Compare a [op, op'] [b, c] pos) (tTest (tChain r r' ta tb tc))) :
    PT X (.Compare a [op, op'] [b, c] pos) (liftT B (dIsB (dChain rD rD' ta tb tc))) := by
  obtain ⟨r, h1, h2⟩ := ho
  obtain ⟨r', h1', h2'⟩ := ho'
  refine PT.imp (w _ _ _ _ _ h1 h1' ha hb hc) fun σ H Q ⟨ρ, G, F, R, m, QD, I, t, post⟩ => ?_
  refine chain_ok (QD := fun d G' => isBl d fun k => QD k G') I h2 h2' t fun d G1 v H1 F1 m1 J s p r q => ?_
  obtain ⟨k, rfl, q⟩ := isBl_some q
  cases r.isBl
  exact ⟨k, rfl, post k G1 H1 F1 m1 J s p q⟩
end
end DL

/-! DLd: arguments, displays, lists frozen or ours, subscripts, slices, built-ins. -/
namespace DL
open PySem PySem.Spec PyProof.Rows L2

def dNil : DTA := fun _ G Q => Q [] G
def dCons (te : DTE) (tr : DTA) : DTA := fun ρ G Q => te ρ G fun d G1 => tr ρ G1 fun ds G2 => Q (d :: ds) G2
def dTup (t : DTA) : DTE := fun ρ G Q => t ρ G fun ds G1 => ds.length ≤ sizeLine ∧ Q (.tup ds) G1
def dLst (t : DTA) : DTA := fun ρ G Q => t ρ G fun ds G1 => ds.length ≤ sizeLine ∧ Q ds G1
/-- a new list, frozen; ours -/
def dFrz (t : DTA) : DTE := fun ρ G Q => t ρ G fun ds G1 => Q (.fl ds) G1
def dOwn (t : DTA) : DTE := fun ρ G Q => t ρ G fun ds G1 => Q (.ref G1.length) (G1 ++ [.lst ds])
section
variable {X : Cx} {B : Bx} {a b c e : Expr} {ta tb tc te : DTE} {uA uB : DTT} {pos : Pos} {rest es : List Expr} {tes : DTA} {tn : DTA}
theorem da_nil : PA X [] (liftA B dNil) := PA.imp pa_nil fun σ H Q ⟨ρ, G, F, R, m, QD, I, t, post⟩ => post [] G [] H F m I.toHRel (Same.refl _) (List.prefix_refl _) .nil t
theorem da_cons (ha : PE X e (liftE B te)) (hr : PA X es (liftA B tes)) (hs : starEach (e :: es) X.env = (false, eval e X.env) :: starEach es X.env) : PA X (e :: es) (liftA B (dCons te tes)) :=
  PA.imp (pa_cons ha hr hs) fun σ H Q ⟨ρ, G, F, R, m, QD, I, t, post⟩ => ⟨ρ, G, F, R, m, _, I, t, fun d G1 v H1 F1 m1 J s p r q =>
    ⟨ρ, G1, F1, R, m1, _, I.of J s p, q, fun ds G2 vs H2 F2 m2 J2 s2 p2 rs q2 => post (d :: ds) G2 (v :: vs) H2 F2 m2 J2 (s.trans s2) (prefix_trans p p2) (.cons (r.mono s2 p2) rs) q2⟩⟩
theorem de_tup {k : Nat} (h : PA X es (liftA B tes)) : PE X (.Tuple es k pos) (liftE B (dTup tes)) :=
  PE.imp (pe_tupF h) fun σ H Q ⟨ρ, G, F, R, m, QD, I, t, post⟩ => ⟨ρ, G, F, R, m, _, I, t, fun ds G1 vs H1 F1 m1 J s p rs q => by
    exact ⟨by rw [← rs.length]; exact q.1, (post.next s p).newTup J rs q.1 q.2⟩⟩
theorem dn_lst (h : PA X es (liftA B tes)) : PE X (.List es pos) (liftN B (dLst tes)) :=
  PE.imp (pe_lst h) fun σ H Q ⟨ρ, G, F, R, m, QD, I, t, post⟩ => ⟨ρ, G, F, R, m, _, I, t, fun ds G1 vs H1 F1 m1 J s p rs q => by
    exact ⟨by rw [← rs.length]; exact q.1, (post.next s p).new J rs q.1 q.2⟩⟩
theorem de_frz (h : PE X e (liftN B tn)) : PE X e (liftE B (dFrz tn)) :=
  PE.imp h fun σ H Q ⟨ρ, G, F, R, m, QD, I, t, post⟩ => ⟨ρ, G, F, R, m, _, I, t, fun ds G1 a vs H1 F1 m1 J s p h1 hF hR hm l z q =>
    post (.fl ds) G1 (.ref a) H1 _ m1 (J.toF h1 hF hR hm) (s.trans (same_upd hF)) p (.fl upd_same (l.mono (same_upd hF) (List.prefix_refl _)) z) q⟩
theorem de_own (h : PE X e (liftN B tn)) : PE X e (liftE B (dOwn tn)) :=
  PE.imp h fun σ H Q ⟨ρ, G, F, R, m, QD, I, t, post⟩ => ⟨ρ, G, F, R, m, _, I, t, fun ds G1 a vs H1 F1 m1 J s p h1 hF hR hm l z q =>
    post (.ref G1.length) (G1 ++ [.lst ds]) (.ref a) H1 F1 (m1 ++ [a]) (J.toM (o := .lst ds) ⟨vs, h1, l.mono (Same.refl _) (List.prefix_append _ _), z⟩ hF hR hm) s (prefix_trans p (List.prefix_append _ _))
      (.ref (by rw [← J.len, List.getElem?_append_right (Nat.le_refl _), Nat.sub_self]; rfl)) q⟩

/-! ### subscripts -/
def ixD : DOp2
  | .tup xs, .int i, G, Q => ∃ d, atI xs i = some d ∧ Q d G
  | .str z, .int i, G, Q => z.length ≤ sizeLine ∧ ∃ c, atI z.cps.toList i = some c ∧ Q (.str ⟨#[c]⟩) G
  | x, .int i, G, Q => ∃ xs, listOf G x = some xs ∧ ∃ d, atI xs i = some d ∧ Q d G
  | _, _, _, _ => False
theorem atI_rep {F : Hp} {m : List Addr} {ds : List D} {vs : List V} {i : Int} {d : D} (l : RepL B.K F m ds vs) (h : atI ds i = some d) : ∃ v, atI vs i = some v ∧ Rep B.K F m d v := by
  unfold atI at h ⊢
  rw [l.length] at h
  cases e : ixN vs.length i with
  | none => rw [e] at h; cases h
  | some j => rw [e] at h; exact l.get h
theorem de_ix (hK : X.K = B.K) (ha : PE X a (liftE B ta)) (hb : PE X b (liftE B tb)) (hs : PlainIx b) : PE X (.Subscript a b pos) (liftE B (dOp ixD ta tb)) := by
  refine PE.imp (pe_ix ix_seq ha hb hs) fun σ H Q ⟨ρ, G, F, R, m, QD, I, t, post⟩ => ?_
  refine bin_ok (rr := fun v u H2 => rIx X.K v u H2 Q) I t fun x y v u G' H' F' m' J s p rx ry q => ?_
  have post := post.next s p
  have lst : (∃ i, y = .int i ∧ ∃ xs, listOf G' x = some xs ∧ ∃ d, atI xs i = some d ∧ QD d G') → rIx X.K v u H' Q := fun ⟨i, ey, xs, e, d, h1, h2⟩ => by
    subst ey
    cases ry.isInt
    obtain ⟨p, vs, rfl, t1, l1, z1⟩ := J.list rx e
    obtain ⟨w, e2, r2⟩ := atI_rep l1 h1
    exact .inl ⟨p, vs, i, w, rfl, rfl, by rw [hK]; exact t1, e2, post.now J r2 h2⟩
  unfold ixD at q
  split at q
  · cases ry.isInt
    obtain ⟨d, h1, h2⟩ := q
    obtain ⟨p, vs, rfl, t1, l1, z1⟩ := rx.isTup
    obtain ⟨w, e2, r2⟩ := atI_rep l1 h1
    exact .inr (.inl ⟨p, vs, _, w, rfl, rfl, by rw [hK]; exact sqT_mono J.subF t1.1, e2, post.now J r2 h2⟩)
  · cases rx.isStr; cases ry.isInt
    obtain ⟨z, c, h1, h2⟩ := q
    exact .inr (.inr ⟨_, _, c, rfl, rfl, z, h1, post.now J (.str _) h2⟩)
  · exact lst ⟨_, rfl, q⟩
  · exact q.elim
/-! ### slices -/
abbrev DTO := DSt → DHp → (Option Int → DHp → Prop) → Prop
def liftO (B : Bx) (td : DTO) : TO := fun σ H Q => ∃ ρ G F R m QD, Rel B σ H ρ G F R m ∧ td ρ G QD ∧ ∀ o G' H' F' m', HRel B H' G' F' R m' → Same F F' → m <+: m' → QD o G' → Q o H'
def dNoPart : DTO := fun _ G Q => Q none G
def dPart (t : DTE) : DTO := fun ρ G Q => t ρ G fun d G1 => match d with
  | .int i => Q (some i) G1
  | _ => False
theorem PO.imp {o : Option Expr} {t t' : TO} (h : PO X o t) (w : ∀ σ H Q, t' σ H Q → t σ H Q) : PO X o t' := ⟨fun pins s σ H Q I q => h.run pins s σ H Q I (w _ _ _ q)⟩
theorem do_none : PO X none (liftO B dNoPart) := PO.imp po_none fun σ H Q ⟨ρ, G, F, R, m, QD, I, t, post⟩ => post none G H F m I.toHRel (Same.refl _) (List.prefix_refl _) t
theorem do_some (h : PE X e (liftE B te)) : PO X (some e) (liftO B (dPart te)) := PO.imp (po_some h) fun σ H Q ⟨ρ, G, F, R, m, QD, I, t, post⟩ =>
  ⟨ρ, G, F, R, m, _, I, t, fun d G1 v H1 F1 m1 J s p r q => by
    cases d with
    | int i => cases r.isInt; exact ⟨i, rfl, post (some i) G1 H1 F1 m1 J s p q⟩
    | _ => exact q.elim⟩
/-- data cut -/
def cutD (xs : List D) (lo hi : Option Int) : List D := (xs.drop (HT.sIx xs.length 0 lo)).take (HT.sIx xs.length xs.length hi - HT.sIx xs.length 0 lo)
theorem cutD_rep {F : Hp} {m : List Addr} {ds : List D} {vs : List V} (l : RepL B.K F m ds vs) (lo hi : Option Int) : RepL B.K F m (cutD ds lo hi) (cutV vs lo hi) := by
  unfold cutD cutV
  rw [l.length]
  exact (l.drop _).take _
theorem cutD_length (xs : List D) (lo hi : Option Int) : (cutD xs lo hi).length ≤ xs.length := by
  unfold cutD
  rw [List.length_take, List.length_drop]
  omega
def slR (x : D) (lo hi : Option Int) (G : DHp) (Q : DK) : Prop := match x with
  | .tup xs => Q (.tup (cutD xs lo hi)) G
  | .str z => z.length ≤ sizeLine ∧ Q (.str (cutS z lo hi)) G
  | _ => False
def dSl (te : DTE) (tl th : DTO) : DTE := fun ρ G Q => te ρ G fun x G1 => tl ρ G1 fun lo G2 => th ρ G2 fun hi G3 => slR x lo hi G3 Q
def dSlN (te : DTE) (tl th : DTO) : DTA := fun ρ G Q => te ρ G fun x G1 => tl ρ G1 fun lo G2 => th ρ G2 fun hi G3 => ∃ xs, listOf G3 x = some xs ∧ Q (cutD xs lo hi) G3
variable {tl th : DTO} {lo hi : Option Expr} {p2 : Pos}
theorem sl_ok {σ : L2.St} {H : Hp} {rr : V → Option Int → Option Int → Hp → Prop} {ρ : DSt} {G : DHp} {F R : Hp} {m : List Addr} {QQ : D → Option Int → Option Int → DHp → Prop} (I : Rel B σ H ρ G F R m)
    (t : te ρ G fun x G1 => tl ρ G1 fun lo G2 => th ρ G2 fun hi G3 => QQ x lo hi G3)
    (h : ∀ x v lo hi G' H' F' m', HRel B H' G' F' R m' → Same F F' → m <+: m' → Rep B.K F' m' x v → QQ x lo hi G' → rr v lo hi H') :
    liftE B te σ H fun x H1 => liftO B tl σ H1 fun l H2 => liftO B th σ H2 fun u H3 => rr x l u H3 :=
  ⟨ρ, G, F, R, m, _, I, t, fun x G1 v H1 F1 m1 J s p r q => ⟨ρ, G1, F1, R, m1, _, I.of J s p, q, fun lo G2 H2 F2 m2 J2 s2 p2 q2 =>
    ⟨ρ, G2, F2, R, m2, _, I.of J2 (s.trans s2) (prefix_trans p p2), q2, fun hi G3 H3 F3 m3 J3 s3 p3 q3 =>
      h x v lo hi G3 H3 F3 m3 J3 ((s.trans s2).trans s3) (prefix_trans (prefix_trans p p2) p3) ((r.mono s2 p2).mono s3 p3) q3⟩⟩⟩
theorem de_slice (hK : X.K = B.K) (he : PE X e (liftE B te)) (hl : PO X lo (liftO B tl)) (hu : PO X hi (liftO B th)) : PE X (.Subscript e (.Slice lo hi none p2) pos) (liftE B (dSl te tl th)) := by
  refine PE.imp (pe_slice (sl_tupF.or sl_str) he hl hu) fun σ H Q ⟨ρ, G, F, R, m, QD, I, t, post⟩ => ?_
  refine sl_ok (rr := fun v l u H3 => rSlF X.K v l u H3 Q ∨ rSlS v l u H3 Q) I t fun x v lo hi G' H' F' m' J s p rx q => ?_
  have post := post.next s p
  cases x with
  | tup xs =>
    obtain ⟨a, vs, rfl, t1, l1, z1⟩ := rx.isTup
    refine .inl ⟨a, vs, rfl, by rw [hK]; exact sqT_mono J.subF t1.1, fun w => ?_, fun _ => post.newTup J (cutD_rep l1 lo hi) (Nat.le_trans (cutD_length _ _ _) z1) q⟩
    have e : cutD xs lo hi = xs := by
      unfold cutD
      rw [l1.length, w.1, w.2, Nat.sub_zero, List.drop_zero, List.take_of_length_le (by rw [l1.length]; exact Nat.le_refl _)]
    refine post.now J (d := .tup xs) (.tup t1 l1 z1) ?_
    have q' : QD (.tup (cutD xs lo hi)) G' := q
    rwa [e] at q'
  | str z => cases rx.isStr; exact .inr ⟨z, rfl, q.1, post.now J (.str _) q.2⟩
  | _ => exact q.elim
theorem dn_slice (hK : X.K = B.K) (he : PE X e (liftE B te)) (hl : PO X lo (liftO B tl)) (hu : PO X hi (liftO B th)) : PE X (.Subscript e (.Slice lo hi none p2) pos) (liftN B (dSlN te tl th)) := by
  refine PE.imp (pe_slice sl_list he hl hu) fun σ H Q ⟨ρ, G, F, R, m, QD, I, t, post⟩ => ?_
  refine sl_ok (rr := fun v l u H3 => rSlL X.K v l u H3 Q) I t fun x v lo hi G' H' F' m' J s p rx q => ?_
  have post := post.next s p
  obtain ⟨xs, e, q⟩ := q
  obtain ⟨a, vs, rfl, t1, l1, z1⟩ := J.list rx e
  exact ⟨a, vs, rfl, by rw [hK]; exact t1, post.new J (cutD_rep l1 lo hi) (Nat.le_trans (cutD_length _ _ _) z1) q⟩
end
/-! ### built-ins by values -/
abbrev DCall := List D → DHp → DK → Prop
abbrev DCallN := List D → DHp → (List D → DHp → Prop) → Prop
def CalD (B : Bx) (X : Cx) (f : Value) (rD : DCall) : Prop := ∃ r : List V → Hp → VK → Prop, CallR X f r ∧ ∀ ds vs H G F R m QD Q, HRel B H G F R m → RepL B.K F m ds vs → rD ds G QD → PostV B F R m QD Q → r vs H Q
def CalN (B : Bx) (X : Cx) (f : Value) (rD : DCallN) : Prop := ∃ r : List V → Hp → VK → Prop, CallR X f r ∧ ∀ ds vs H G F R m QD Q, HRel B H G F R m → RepL B.K F m ds vs → rD ds G QD → PostN B F R m QD Q → r vs H Q
def dBi (rD : DCall) (t : DTA) : DTE := fun ρ G Q => t ρ G fun ds G1 => rD ds G1 Q
def dBiN (rD : DCallN) (t : DTA) : DTA := fun ρ G Q => t ρ G fun ds G1 => rD ds G1 Q
section
variable {X : Cx} {B : Bx} {e : Expr} {es : List Expr} {tes : DTA} {x : Str} {p pos : Pos} {id T : String} {rD : DCall} {rN : DCallN}
theorem de_callB (hc : CalD B X (.builtin id) rD) (hg : Gl X x) (hm : X.mg x = none) (hv : bootBuiltins x = some (.builtin id)) (ha : PA X (e :: es) (liftA B tes)) (hn : x ≠ "__name__") (hdb : (x == ("__debug__" : Str)) = false)
    (he : starEach (e :: es) X.env = (false, eval e X.env) :: starEach es X.env) (hpl : (backTo pos (starEach es X.env)).any (·.1) = false) : PE X (.Call (.Name x p) (e :: es) [] pos) (liftE B (dBi rD tes)) := by
  obtain ⟨r, h1, h2⟩ := hc
  exact PE.imp (pe_callB h1 hg hm hv ha hn hdb he hpl) fun σ H Q ⟨ρ, G, F, R, m, QD, I, t, post⟩ => ⟨ρ, G, F, R, m, _, I, t, fun ds G1 vs H1 F1 m1 J s p rs q => h2 ds vs H1 G1 F1 R m1 QD Q J rs q (post.next s p)⟩
theorem de_callTy (hc : CalD B X (.type T) rD) (hg : Gl X x) (hm : X.mg x = none) (hv : bootBuiltins x = some (.type T)) (ha : PA X (e :: es) (liftA B tes)) (hn : x ≠ "__name__") (hdb : (x == ("__debug__" : Str)) = false)
    (he : starEach (e :: es) X.env = (false, eval e X.env) :: starEach es X.env) (hpl : (backTo pos (starEach es X.env)).any (·.1) = false) : PE X (.Call (.Name x p) (e :: es) [] pos) (liftE B (dBi rD tes)) := by
  obtain ⟨r, h1, h2⟩ := hc
  exact PE.imp (pe_callTy h1 hg hm hv ha hn hdb he hpl) fun σ H Q ⟨ρ, G, F, R, m, QD, I, t, post⟩ => ⟨ρ, G, F, R, m, _, I, t, fun ds G1 vs H1 F1 m1 J s p rs q => h2 ds vs H1 G1 F1 R m1 QD Q J rs q (post.next s p)⟩
theorem dn_callB (hc : CalN B X (.builtin id) rN) (hg : Gl X x) (hm : X.mg x = none) (hv : bootBuiltins x = some (.builtin id)) (ha : PA X (e :: es) (liftA B tes)) (hn : x ≠ "__name__") (hdb : (x == ("__debug__" : Str)) = false)
    (he : starEach (e :: es) X.env = (false, eval e X.env) :: starEach es X.env) (hpl : (backTo pos (starEach es X.env)).any (·.1) = false) : PE X (.Call (.Name x p) (e :: es) [] pos) (liftN B (dBiN rN tes)) := by
  obtain ⟨r, h1, h2⟩ := hc
  exact PE.imp (pe_callB h1 hg hm hv ha hn hdb he hpl) fun σ H Q ⟨ρ, G, F, R, m, QD, I, t, post⟩ => ⟨ρ, G, F, R, m, _, I, t, fun ds G1 vs H1 F1 m1 J s p rs q => h2 ds vs H1 G1 F1 R m1 QD Q J rs q (post.next s p)⟩
theorem dn_callTy (hc : CalN B X (.type T) rN) (hg : Gl X x) (hm : X.mg x = none) (hv : bootBuiltins x = some (.type T)) (ha : PA X (e :: es) (liftA B tes)) (hn : x ≠ "__name__") (hdb : (x == ("__debug__" : Str)) = false)
    (he : starEach (e :: es) X.env = (false, eval e X.env) :: starEach es X.env) (hpl : (backTo pos (starEach es X.env)).any (·.1) = false) : PE X (.Call (.Name x p) (e :: es) [] pos) (liftN B (dBiN rN tes)) := by
  obtain ⟨r, h1, h2⟩ := hc
  exact PE.imp (pe_callTy h1 hg hm hv ha hn hdb he hpl) fun σ H Q ⟨ρ, G, F, R, m, QD, I, t, post⟩ => ⟨ρ, G, F, R, m, _, I, t, fun ds G1 vs H1 F1 m1 J s p rs q => h2 ds vs H1 G1 F1 R m1 QD Q J rs q (post.next s p)⟩
end
end DL

/-! DLe: built-ins and methods at the data level. -/
namespace DL
open PySem PySem.Spec PyProof.Rows L2

theorem rep1 {K : PySem.W.Frag} {F : Hp} {m : List Addr} {d : D} {vs : List V} (h : RepL K F m [d] vs) : ∃ v, vs = [v] ∧ Rep K F m d v := by
  cases h with | cons r t => cases t; exact ⟨_, rfl, r⟩
theorem rep2 {K : PySem.W.Frag} {F : Hp} {m : List Addr} {d e : D} {vs : List V} (h : RepL K F m [d, e] vs) : ∃ v u, vs = [v, u] ∧ Rep K F m d v ∧ Rep K F m e u := by
  cases h with | cons r t => cases t with | cons r2 t2 => cases t2; exact ⟨_, _, rfl, r, r2⟩
section
variable {B : Bx} {X : Cx}
def absB : DCall
  | [.int i], G, Q => Q (.int (if i < 0 then -i else i)) G
  | _, _, _ => False
theorem cal_abs : CalD B X (.builtin "abs") absB := by
  refine ⟨_, call_abs, fun ds vs H G F R m QD Q I rs h post => ?_⟩
  match ds, h with
  | [.int i], h =>
    obtain ⟨v, rfl, r⟩ := rep1 rs
    cases r.isInt
    exact ⟨i, rfl, post.now I (.int _) h⟩
def maxB : DCall
  | [.int i, .int j], G, Q => Q (.int (if j > i then j else i)) G
  | _, _, _ => False
theorem cal_max (hc : X.calm = true) : CalD B X (.builtin "max") maxB := by
  refine ⟨_, call_max2 hc, fun ds vs H G F R m QD Q I rs h post => ?_⟩
  match ds, h with
  | [.int i, .int j], h =>
    obtain ⟨v, u, rfl, r, r2⟩ := rep2 rs
    cases r.isInt; cases r2.isInt
    exact ⟨i, j, rfl, post.now I (.int _) h⟩
def minB : DCall
  | [.int i, .int j], G, Q => Q (.int (if j < i then j else i)) G
  | _, _, _ => False
theorem cal_min (hc : X.calm = true) : CalD B X (.builtin "min") minB := by
  refine ⟨_, call_min2 hc, fun ds vs H G F R m QD Q I rs h post => ?_⟩
  match ds, h with
  | [.int i, .int j], h =>
    obtain ⟨v, u, rfl, r, r2⟩ := rep2 rs
    cases r.isInt; cases r2.isInt
    exact ⟨i, j, rfl, post.now I (.int _) h⟩
def intB : DCall
  | [.int i], G, Q => Q (.int i) G
  | [.bl b], G, Q => Q (.int (if b then 1 else 0)) G
  | [.str x], G, Q => ∃ n, PySem.intText? x = some n ∧ x.length ≤ 640 ∧ Q (.int n) G
  | _, _, _ => False
theorem cal_int : CalD B X (.type "int") intB := by
  refine ⟨_, call_int1.or call_int_str, fun ds vs H G F R m QD Q I rs h post => ?_⟩
  match ds, h with
  | [.int i], h =>
    obtain ⟨v, rfl, r⟩ := rep1 rs
    cases r.isInt
    exact .inl (.inl ⟨i, rfl, post.now I (.int _) h⟩)
  | [.bl i], h =>
    obtain ⟨v, rfl, r⟩ := rep1 rs
    cases r.isBl
    exact .inl (.inr ⟨i, rfl, post.now I (.int _) h⟩)
  | [.str x], h =>
    obtain ⟨v, rfl, r⟩ := rep1 rs
    cases r.isStr
    obtain ⟨n, e, z, q⟩ := h
    exact .inr ⟨x, n, rfl, e, z, post.now I (.int _) q⟩
def strB : DCall
  | [.int i], G, Q => i.natAbs.log2 < 1920 ∧ Q (.str (toString i)) G
  | _, _, _ => False
theorem cal_str : CalD B X (.type "str") strB := by
  refine ⟨_, call_str_int, fun ds vs H G F R m QD Q I rs h post => ?_⟩
  match ds, h with
  | [.int i], h =>
    obtain ⟨v, rfl, r⟩ := rep1 rs
    cases r.isInt
    exact ⟨i, rfl, h.1, post.now I (.str _) h.2⟩
/-- the number of items or signs -/
def lenK (G : DHp) (Q : DK) : D → Prop
  | .tup xs => Q (.int xs.length) G
  | .fl xs => Q (.int xs.length) G
  | .sl xs => Q (.int xs.length) G
  | .str x => x.length ≤ sizeLine ∧ Q (.int x.length) G
  | _ => False
def lenB : DCall := fun ds G Q => match ds with
  | [d] => lenK G Q (view G d)
  | _ => False
theorem cal_len (hK : X.K = B.K) : CalD B X (.builtin "len") lenB := by
  refine ⟨_, call_len_seq.or call_len_str, fun ds vs H G F R m QD Q I rs h post => ?_⟩
  match ds, h with
  | [d], h =>
    obtain ⟨v, rfl, r⟩ := rep1 rs
    have go : ∀ (p : Addr) (us : List V) (xs : List D), v = .ref p → (SqL B.K H p us ∨ SqT B.K H p us) → RepL B.K F m xs us → QD (.int xs.length) G → _ := fun p us xs e t l q =>
      (.inl ⟨p, us, by rw [e], by rw [hK]; exact t, post.now I (.int _) (by rw [← l.length]; exact q)⟩ : (∃ p ys, [v] = [V.ref p] ∧ (SqL X.K H p ys ∨ SqT X.K H p ys) ∧ Q (.int ys.length) H) ∨ ∃ z, [v] = [V.str z] ∧ z.length ≤ sizeLine ∧ Q (.int z.length) H)
    have h : lenK G QD (DL.view G d) := h
    cases e : DL.view G d with
    | tup xs =>
      rw [e] at h
      have e2 : d = .tup xs := by
        cases d with
        | ref i => rw [view_ref] at e; cases hg : G[i]? with
          | none => rw [hg] at e; cases e
          | some o => rw [hg] at e; cases o <;> cases e
        | _ => first | exact e | cases e
      subst e2
      obtain ⟨p, us, e1, t, l, z⟩ := r.isTup
      exact go p us xs e1 (.inr (sqT_mono I.subF t.1)) l h
    | fl xs =>
      rw [e] at h
      obtain ⟨p, us, e1, t, l, z⟩ := I.list (xs := xs) r (by unfold listOf; rw [e])
      exact go p us xs e1 (.inl t) l h
    | sl xs =>
      rw [e] at h
      obtain ⟨p, us, e1, t, l, z⟩ := I.list (xs := xs) r (by unfold listOf; rw [e])
      exact go p us xs e1 (.inl t) l h
    | str x =>
      rw [e] at h
      have e2 : d = .str x := by
        cases d with
        | ref i => rw [view_ref] at e; cases hg : G[i]? with
          | none => rw [hg] at e; cases e
          | some o => rw [hg] at e; cases o <;> cases e
        | _ => first | exact e | cases e
      subst e2
      cases r.isStr
      exact .inr ⟨x, rfl, h.1, post.now I (.int _) h.2⟩
    | _ => rw [e] at h; exact h.elim
def sumB : DCall := fun ds G Q => match ds with
  | [d] => ∃ ns : List Int, itemsOf G d = some (ns.map D.int) ∧ Q (.int ns.sum) G
  | _ => False
theorem cal_sum (hK : X.K = B.K) (hc : X.calm = true) : CalD B X (.builtin "sum") sumB := by
  refine ⟨_, (cr_sum hc).or (cr_sumT hc), fun ds vs H G F R m QD Q I rs h post => ?_⟩
  match ds, h with
  | [d], h =>
    obtain ⟨v, rfl, r⟩ := rep1 rs
    obtain ⟨ns, e, q⟩ := h
    obtain ⟨p, us, rfl, t, l, z⟩ := items_of I r e
    cases l.ints
    rcases t with t | t
    · exact .inl ⟨p, ns, rfl, by rw [hK]; exact t, post.now I (.int _) q⟩
    · exact .inr ⟨p, ns, rfl, by rw [hK]; exact t, post.now I (.int _) q⟩
def anyB : DCall := fun ds G Q => match ds with
  | [d] => ∃ bs : List Bool, listOf G d = some (bs.map D.bl) ∧ Q (.bl (bs.any id)) G
  | _ => False
theorem cal_any (hK : X.K = B.K) (hc : X.calm = true) : CalD B X (.builtin "any") anyB := by
  refine ⟨_, cr_any hc, fun ds vs H G F R m QD Q I rs h post => ?_⟩
  match ds, h with
  | [d], h =>
    obtain ⟨v, rfl, r⟩ := rep1 rs
    obtain ⟨ns, e, q⟩ := h
    obtain ⟨p, us, rfl, t, l, z⟩ := I.list r e
    cases l.bls
    exact ⟨p, ns, rfl, by rw [hK]; exact t, post.now I (.bl _) q⟩
def allB : DCall := fun ds G Q => match ds with
  | [d] => ∃ bs : List Bool, listOf G d = some (bs.map D.bl) ∧ Q (.bl (bs.all id)) G
  | _ => False
theorem cal_all (hK : X.K = B.K) (hc : X.calm = true) : CalD B X (.builtin "all") allB := by
  refine ⟨_, cr_all hc, fun ds vs H G F R m QD Q I rs h post => ?_⟩
  match ds, h with
  | [d], h =>
    obtain ⟨v, rfl, r⟩ := rep1 rs
    obtain ⟨ns, e, q⟩ := h
    obtain ⟨p, us, rfl, t, l, z⟩ := I.list r e
    cases l.bls
    exact ⟨p, ns, rfl, by rw [hK]; exact t, post.now I (.bl _) q⟩
def tupleB : DCall := fun ds G Q => match ds with
  | [.tup xs] => Q (.tup xs) G
  | [d] => ∃ xs, listOf G d = some xs ∧ Q (.tup xs) G
  | _ => False
theorem cal_tuple (hK : X.K = B.K) : CalD B X (.type "tuple") tupleB := by
  refine ⟨_, call_tupF, fun ds vs H G F R m QD Q I rs h post => ?_⟩
  unfold tupleB at h
  split at h
  · obtain ⟨v, rfl, r⟩ := rep1 rs
    obtain ⟨p, us, rfl, t, l, z⟩ := r.isTup
    exact ⟨p, us, rfl, .inr ⟨by rw [hK]; exact sqT_mono I.subF t.1, post.now I (.tup t l z) h⟩⟩
  · obtain ⟨v, rfl, r⟩ := rep1 rs
    obtain ⟨xs, e, q⟩ := h
    obtain ⟨p, us, rfl, t, l, z⟩ := I.list r e
    exact ⟨p, us, rfl, .inl ⟨by rw [hK]; exact t, post.newTup I l z q⟩⟩
  · exact h.elim
def listB : DCallN := fun ds G Q => match ds with
  | [d] => ∃ xs, itemsOf G d = some xs ∧ Q xs G
  | _ => False
theorem cal_list (hK : X.K = B.K) : CalN B X (.type "list") listB := by
  refine ⟨_, call_list_of, fun ds vs H G F R m QD Q I rs h post => ?_⟩
  match ds, h with
  | [d], h =>
    obtain ⟨v, rfl, r⟩ := rep1 rs
    obtain ⟨xs, e, q⟩ := h
    obtain ⟨p, us, rfl, t, l, z⟩ := items_of I r e
    exact ⟨p, us, rfl, by rw [hK]; exact t, post.new I l z q⟩
/-! ### isinstance -/
def tyD (G : DHp) (d : D) : Option String := match view G d with
  | .non => some "NoneType"
  | .bl _ => some "bool"
  | .int _ => some "int"
  | .str _ => some "str"
  | .tup _ => some "tuple"
  | .fl _ => some "list"
  | .sl _ => some "list"
  | .fd => some "dict"
  | _ => none
def isiB : DCall := fun ds G Q => match ds with
  | [d, .ty n] => ∃ t b, tyD G d = some t ∧ kitB t n = some b ∧ Q (.bl b) G
  | _ => False
theorem tyx_of {F R H : Hp} {m : List Addr} {G : DHp} (I : HRel B H G F R m) {d : D} {v : V} {t : String} (r : Rep B.K F m d v) (h : tyD G d = some t) : TyX B.K H v (.type t) := by
  unfold tyD at h
  have hv : (DL.view G d).isVal = true := by cases e : DL.view G d <;> first | rfl | (rw [e] at h; cases h)
  have r' := I.view r hv
  generalize DL.view G d = d' at h hv r'
  cases r' with
  | non => cases h; exact .base .non
  | bl b => cases h; exact .base (.bl b)
  | int i => cases h; exact .base (.int i)
  | str x => cases h; exact .base (.str x)
  | ty n => cases h
  | ref z => cases h
  | fd z => cases h; exact .base (.dK z)
  | tw h1 h2 z => cases h
  | tup h1 h2 z =>
    cases h
    rcases h1.1 with (h1 | ⟨o, h1⟩) | ⟨o, its, n, k, c, _⟩
    · exact .base (.tup h1)
    · exact .fTuple h1
    · exact .kTuple k c
  | fl h1 h2 z => cases h; exact .base (.lst h1)
  | sl h1 h2 z =>
    cases h
    rcases h1 with (h1 | ⟨o, h1⟩) | ⟨o, its, n, k, c, _⟩
    · exact .base (.lst h1)
    · exact .base (.frz h1)
    · exact .kList k c
theorem cal_isi (hK : X.K = B.K) : CalD B X (.builtin "isinstance") isiB := by
  refine ⟨_, call_isi, fun ds vs H G F R m QD Q I rs h post => ?_⟩
  unfold isiB at h
  split at h
  · obtain ⟨v, u, rfl, r, r2⟩ := rep2 rs
    cases r2
    obtain ⟨t, b, e1, e2, q⟩ := h
    exact ⟨_, _, .type t, _, b, rfl, .ty _, by rw [hK]; exact tyx_of I r e1, kit_ty e2, post.now I (.bl b) q⟩
  · exact h.elim

/-! ### methods of built-in types -/
abbrev DMet := D → List D → DHp → DK → Prop
def MetD (B : Bx) (X : Cx) (id : String) (rD : DMet) : Prop := ∃ r : V → List V → Hp → VK → Prop, MtR X id r ∧ ∀ d ds v vs H G F R m QD Q, HRel B H G F R m → Rep B.K F m d v → RepL B.K F m ds vs → rD d ds G QD → PostV B F R m QD Q → r v vs H Q
/-- the receiver is such a value -/
def tyM (T : String) (G : DHp) (d : D) : Prop := match d with
  | .str _ => T = "str"
  | d => T = "list" ∧ ∃ xs, listOf G d = some xs
def dMet (T : String) (rD : DMet) (to : DTE) (t : DTA) : DTE := fun ρ G Q => to ρ G fun x G1 => tyM T G1 x ∧ t ρ G1 fun ds G2 => rD x ds G2 Q
theorem tyM_ok {F R H : Hp} {m : List Addr} {G : DHp} (I : HRel B H G F R m) {d : D} {v : V} {T : String} (r : Rep B.K F m d v) (h : tyM T G d) : tyV B.K T v H := by
  cases d with
  | str x => cases r.isStr; exact h
  | _ =>
    obtain ⟨e, xs, h⟩ := h
    obtain ⟨p, vs, rfl, t, _, _⟩ := I.list r h
    exact .inl ⟨e, vs, t⟩
variable {o e : Expr} {es : List Expr} {to : DTE} {tes : DTA} {name : Str} {apos cpos : Pos} {T id : String} {rD : DMet}
theorem de_bm (hK : X.K = B.K) (pa : PlainAttrs T) (slot : Slot T name id) (hty : typeOf (.builtin id) = pure (.type "method_descriptor")) (hm : MetD B X id rD) (ho : PE X o (liftE B to)) (ha : PA X (e :: es) (liftA B tes))
    (hbase : attributeBase o name X.env (eval o X.env) = eval o X.env)
    (hfew : ((backTo cpos (starEach (e :: es) X.env)).all (fun x => !x.1) && (backToKw cpos (keywordEach [] X.env)).all (fun x => x.1.isSome)
      && decide ((e :: es).length + ([] : List Keyword).length + (if ([] : List Keyword).isEmpty then 0 else 1) < 30)) = true)
    (hline : (apos.endLine == cpos.line) = true) (hs : starEach (e :: es) X.env = (false, eval e X.env) :: starEach es X.env) (hplain : (backTo cpos (starEach es X.env)).any (·.1) = false) :
    PE X (.Call (.Attribute o name apos) (e :: es) [] cpos) (liftE B (dMet T rD to tes)) := by
  obtain ⟨r, h1, h2⟩ := hm
  refine PE.imp (pe_bm pa slot hty h1 ho ha hbase hfew hline hs hplain) fun σ H Q ⟨ρ, G, F, R, m, QD, I, t, post⟩ => ⟨ρ, G, F, R, m, _, I, t, fun x G1 v H1 F1 m1 J s p rx q => ?_⟩
  refine ⟨by rw [hK]; exact tyM_ok J rx q.1, ρ, G1, F1, R, m1, _, I.of J s p, q.2, fun ds G2 vs H2 F2 m2 J2 s2 p2 rs q2 => ?_⟩
  exact h2 x ds v vs H2 G2 F2 R m2 QD Q J2 (rx.mono s2 p2) rs q2 ((post.next s p).next s2 p2)
theorem de_bm0 (hK : X.K = B.K) (pa : PlainAttrs T) (slot : Slot T name id) (hty : typeOf (.builtin id) = pure (.type "method_descriptor")) (hm : MetD B X id rD) (ho : PE X o (liftE B to))
    (hbase : attributeBase o name X.env (eval o X.env) = eval o X.env) (hline : (apos.endLine == cpos.line) = true) :
    PE X (.Call (.Attribute o name apos) [] [] cpos) (liftE B (dMet T rD to dNil)) := by
  obtain ⟨r, h1, h2⟩ := hm
  refine PE.imp (pe_bm0 pa slot hty h1 ho hbase hline) fun σ H Q ⟨ρ, G, F, R, m, QD, I, t, post⟩ => ⟨ρ, G, F, R, m, _, I, t, fun x G1 v H1 F1 m1 J s p rx q => ?_⟩
  exact ⟨by rw [hK]; exact tyM_ok J rx q.1, h2 x [] v [] H1 G1 F1 R m1 QD Q J rx .nil q.2 (post.next s p)⟩
/-- a list of ours is written -/
theorem HRel.wr {H F R : Hp} {G : DHp} {m : List Addr} (I : HRel B H G F R m) {i : Nat} {a : Addr} {xs : List D} {vs : List V} (ha : m[i]? = some a) (l : RepL B.K F m xs vs) (z : xs.length ≤ sizeLine) : HRel B (upd H a (.lst vs)) (G.set i (.lst xs)) F R m :=
  I.set (o := .lst xs) ha ⟨vs, upd_same, l, z⟩
theorem PostV.wr {H F R : Hp} {G : DHp} {m : List Addr} {QD : DK} {Q : VK} (post : PostV B F R m QD Q) (I : HRel B H G F R m) {i : Nat} {a : Addr} {xs : List D} {vs : List V} {d : D} {v : V} (ha : m[i]? = some a) (l : RepL B.K F m xs vs) (z : xs.length ≤ sizeLine) (r : Rep B.K F m d v)
    (q : QD d (G.set i (.lst xs))) : Q v (upd H a (.lst vs)) := post.now (I.wr ha l z) r q
def appendM : DMet := fun d ds G Q => match d, ds with
  | .ref i, [x] => ∃ xs, G[i]? = some (.lst xs) ∧ xs.length < sizeLine ∧ Q .non (G.set i (.lst (xs ++ [x])))
  | _, _ => False
theorem met_append : MetD B X "list.append" appendM := by
  refine ⟨_, mt_append, fun d ds v vs H G F R m QD Q I r rs h post => ?_⟩
  match d, ds, h with
  | .ref i, [x], h =>
    obtain ⟨w, rfl, rx⟩ := rep1 rs
    obtain ⟨xs, e, z, q⟩ := h
    obtain ⟨p, us, rfl, hm, hH, l, z2⟩ := I.own r e
    refine ⟨p, us, w, rfl, rfl, hH, by rw [← l.length]; exact z, post.wr I hm (l.append (.cons rx .nil)) ?_ .non q⟩
    rw [List.length_append]
    exact z
def popAtM : DMet := fun d ds G Q => match d, ds with
  | .ref i, [.int j] => ∃ xs, G[i]? = some (.lst xs) ∧ -(2 ^ 63) ≤ j ∧ j < 2 ^ 63 ∧ ∃ k y, seqIndex? j xs.length = some k ∧ xs[k]? = some y ∧ Q y (G.set i (.lst (xs.eraseIdx k)))
  | _, _ => False
theorem met_popAt : MetD B X "list.pop" popAtM := by
  refine ⟨_, mt_popAt, fun d ds v vs H G F R m QD Q I r rs h post => ?_⟩
  match d, ds, h with
  | .ref i, [.int j], h =>
    obtain ⟨w, rfl, rx⟩ := rep1 rs
    cases rx.isInt
    obtain ⟨xs, e, j1, j2, k, y, h1, h2, q⟩ := h
    obtain ⟨p, us, rfl, hm, hH, l, z2⟩ := I.own r e
    obtain ⟨u, e2, ru⟩ := l.get h2
    refine ⟨p, us, j, k, u, rfl, rfl, hH, j1, j2, by rw [← l.length]; exact h1, e2, post.wr I hm (l.eraseIdx k) ?_ ru q⟩
    exact Nat.le_trans (len_erase xs k) z2
def popM : DMet := fun d ds G Q => match d, ds with
  | .ref i, [] => ∃ xs y, G[i]? = some (.lst xs) ∧ xs[xs.length - 1]? = some y ∧ Q y (G.set i (.lst xs.dropLast))
  | _, _ => False
theorem met_pop : MetD B X "list.pop" popM := by
  refine ⟨_, mt_pop, fun d ds v vs H G F R m QD Q I r rs h post => ?_⟩
  match d, ds, h with
  | .ref i, [], h =>
    cases rs
    obtain ⟨xs, y, e, h2, q⟩ := h
    obtain ⟨p, us, rfl, hm, hH, l, z2⟩ := I.own r e
    obtain ⟨u, e2, ru⟩ := l.get h2
    refine ⟨p, us, u, rfl, rfl, hH, by rw [← l.length]; exact e2, post.wr I hm l.dropLast ?_ ru q⟩
    rw [List.length_dropLast]
    omega
def clearM : DMet := fun d ds G Q => match d, ds with
  | .ref i, [] => ∃ xs, G[i]? = some (.lst xs) ∧ Q .non (G.set i (.lst []))
  | _, _ => False
theorem met_clear : MetD B X "list.clear" clearM := by
  refine ⟨_, mt_clear, fun d ds v vs H G F R m QD Q I r rs h post => ?_⟩
  match d, ds, h with
  | .ref i, [], h =>
    cases rs
    obtain ⟨xs, e, q⟩ := h
    obtain ⟨p, us, rfl, hm, hH, l, z2⟩ := I.own r e
    exact ⟨p, us, rfl, rfl, hH, post.wr I hm .nil (Nat.zero_le _) .non q⟩
def countM : DMet := fun d ds G Q => match ds with
  | [.int k] => ∃ ns : List Int, listOf G d = some (ns.map D.int) ∧ Q (.int (ns.count k : Nat)) G
  | _ => False
theorem met_count (hK : X.K = B.K) : MetD B X "list.count" countM := by
  refine ⟨_, mt_lcount, fun d ds v vs H G F R m QD Q I r rs h post => ?_⟩
  match ds, h with
  | [.int k], h =>
    obtain ⟨w, rfl, rx⟩ := rep1 rs
    cases rx.isInt
    obtain ⟨ns, e, q⟩ := h
    obtain ⟨p, us, rfl, t, l, z⟩ := I.list r e
    cases l.ints
    exact ⟨p, ns, k, rfl, rfl, by rw [hK]; exact t, post.now I (.int _) q⟩
end
end DL

/-! DLo: methods of tuples, backwards, sets' lengths, lists of ranges, dicts. -/
namespace DL
open PySem PySem.Spec PyProof.Rows L2
section
variable {B : Bx} {X : Cx}
theorem HRel.plT {H F R : Hp} {G : DHp} {m : List Addr} {p : Addr} {K : PySem.W.Frag} (I : HRel B H G F R m) (h : PlT K F p) : PlT K H p := plT_mono I.subF h
def indexM : DMet := fun d ds G Q => match ds with
  | [x] => ∃ xs j z, listOf G d = some xs ∧ flatD x = true ∧ xs.all flatD = true ∧ xs[j]? = some z ∧ eqD z x = true ∧ (∀ (m : Nat) z', m < j → xs[m]? = some z' → eqD z' x = false) ∧ Q (.int (j : Nat)) G
  | _ => False
theorem flat_eqV {F : Hp} {m : List Addr} {z x : D} {w v : V} (r : Rep B.K F m z w) (q : Rep B.K F m x v) (h : flatD z = true) (hx : flatD x = true) : eqV w v = eqD z x := by
  cases r <;> first
    | exact absurd h Bool.false_ne_true
    | (cases q <;> first
        | exact absurd hx Bool.false_ne_true
        | rfl
        | (simp [eqV, eqD, toP, PyData.eqv]; done))
theorem met_index (hK : X.K = B.K) : MetD B X "list.index" indexM := by
  refine ⟨_, mt_index, fun d ds v vs H G F R m QD Q I r rs h post => ?_⟩
  match ds, h with
  | [x], h =>
    obtain ⟨w, rfl, rx⟩ := rep1 rs
    obtain ⟨xs, j, z, e, hx, hxs, hz, hzx, hno, q⟩ := h
    obtain ⟨p, us, rfl, t, l, _⟩ := I.list r e
    obtain ⟨u, e2, ru⟩ := l.get hz
    have fz := List.all_eq_true.mp hxs z (List.mem_of_getElem? hz)
    refine ⟨p, us, w, j, u, rfl, rfl, by rw [hK]; exact t, (rep_flat (B := B) rx hx).1, (all_flat l hxs).1, e2, (flat_eqV ru rx fz hx).trans hzx, fun m' z' hm hz' => ?_, post.now I (.int _) q⟩
    obtain ⟨d', e3, r3⟩ := l.getV hz'
    rw [flat_eqV r3 rx (List.all_eq_true.mp hxs d' (List.mem_of_getElem? e3)) hx]
    exact hno m' d' hm e3
/-- extend by a list or a tuple -/
def extendM : DMet := fun d ds G Q => match d, ds with
  | .ref i, [.tup ys] => ∃ xs, G[i]? = some (.lst xs) ∧ xs.length + ys.length ≤ sizeLine ∧ Q .non (G.set i (.lst (xs ++ ys)))
  | .ref i, [y] => ∃ xs ys, view G y = .fl ys ∧ G[i]? = some (.lst xs) ∧ xs.length + ys.length ≤ sizeLine ∧ Q .non (G.set i (.lst (xs ++ ys)))
  | _, _ => False
theorem met_extend (hK : X.K = B.K) : MetD B X "list.extend" extendM := by
  refine ⟨_, MtR.or mt_extend mt_extT, fun d ds v vs H G F R m QD Q I r rs h post => ?_⟩
  unfold extendM at h
  split at h
  · obtain ⟨w, rfl, rx⟩ := rep1 rs
    obtain ⟨xs, e, z, q⟩ := h
    obtain ⟨p, us, rfl, hm, hH, l, z2⟩ := I.own r e
    obtain ⟨p2, us2, rfl, t2, l2, z3⟩ := rx.isTup
    refine .inr ⟨p, p2, us, us2, rfl, rfl, hH, by rw [hK]; exact sqT_mono I.subF t2.1, by rw [hK]; exact I.plT t2.2, by rw [← l.length, ← l2.length]; exact z, post.wr I hm (l.append l2) (by rw [List.length_append]; exact z) .non q⟩
  · obtain ⟨w, rfl, rx⟩ := rep1 rs
    obtain ⟨xs, ys, ey, e, z, q⟩ := h
    obtain ⟨p, us, rfl, hm, hH, l, z2⟩ := I.own r e
    obtain ⟨p2, us2, rfl, h2, l2, z3⟩ := I.list' rx ey
    refine .inl ⟨p, p2, us, us2, rfl, rfl, hH, h2, by rw [← l.length, ← l2.length]; exact z, post.wr I hm (l.append l2) (by rw [List.length_append]; exact z) .non q⟩
  · exact h.elim
/-! ### methods of tuples -/
def dMetT (rD : DMet) (to : DTE) (t : DTA) : DTE := fun ρ G Q => to ρ G fun x G1 => (∃ xs, x = .tup xs) ∧ t ρ G1 fun ds G2 => rD x ds G2 Q
def countT : DMet := fun d ds G Q => match d, ds with
  | .tup xs, [.int k] => ∃ ns : List Int, xs = ns.map D.int ∧ Q (.int (ns.count k : Nat)) G
  | _, _ => False
theorem met_countT (hK : X.K = B.K) : MetD B X "tuple.count" countT := by
  refine ⟨_, mt_tcount, fun d ds v vs H G F R m QD Q I r rs h post => ?_⟩
  match d, ds, h with
  | .tup xs, [.int k], h =>
    obtain ⟨w, rfl, rx⟩ := rep1 rs
    cases rx.isInt
    obtain ⟨ns, rfl, q⟩ := h
    obtain ⟨p, us, rfl, t, l, z⟩ := r.isTup
    cases l.ints
    exact ⟨p, ns, k, rfl, rfl, by rw [hK]; exact sqT_mono I.subF t.1, post.now I (.int _) q⟩
def indexT : DMet := fun d ds G Q => match d, ds with
  | .tup xs, [.int k] => ∃ (ns : List Int) (j : Nat), xs = ns.map D.int ∧ ns[j]? = some k ∧ (∀ m, m < j → ns[m]? ≠ some k) ∧ Q (.int (j : Nat)) G
  | _, _ => False
theorem met_indexT (hK : X.K = B.K) : MetD B X "tuple.index" indexT := by
  refine ⟨_, mt_tindex, fun d ds v vs H G F R m QD Q I r rs h post => ?_⟩
  match d, ds, h with
  | .tup xs, [.int k], h =>
    obtain ⟨w, rfl, rx⟩ := rep1 rs
    cases rx.isInt
    obtain ⟨ns, j, rfl, e, hno, q⟩ := h
    obtain ⟨p, us, rfl, t, l, z⟩ := r.isTup
    cases l.ints
    exact ⟨p, ns, k, j, rfl, rfl, by rw [hK]; exact sqT_mono I.subF t.1, e, hno, post.now I (.int _) q⟩
variable {o e e2 : Expr} {es : List Expr} {to te te2 : DTE} {tes : DTA} {name : Str} {apos cpos p p2 p3 pos q : Pos} {id : String} {rD : DMet}
theorem de_bt (hK : X.K = B.K) (slot : Slot "tuple" name id) (hty : typeOf (.builtin id) = pure (.type "method_descriptor")) (hm : MetD B X id rD) (ho : PE X o (liftE B to)) (ha : PA X (e :: es) (liftA B tes))
    (hbase : attributeBase o name X.env (eval o X.env) = eval o X.env)
    (hfew : ((backTo cpos (starEach (e :: es) X.env)).all (fun x => !x.1) && (backToKw cpos (keywordEach [] X.env)).all (fun x => x.1.isSome)
      && decide ((e :: es).length + ([] : List Keyword).length + (if ([] : List Keyword).isEmpty then 0 else 1) < 30)) = true)
    (hline : (apos.endLine == cpos.line) = true) (hs : starEach (e :: es) X.env = (false, eval e X.env) :: starEach es X.env) (hplain : (backTo cpos (starEach es X.env)).any (·.1) = false) :
    PE X (.Call (.Attribute o name apos) (e :: es) [] cpos) (liftE B (dMetT rD to tes)) := by
  obtain ⟨r, h1, h2⟩ := hm
  refine PE.imp (pe_bt PySem.F.plainAttrs_tuple slot hty h1 ho ha hbase hfew hline hs hplain) fun σ H Q ⟨ρ, G, F, R, m, QD, I, t, post⟩ => ⟨ρ, G, F, R, m, _, I, t, fun x G1 v H1 F1 m1 J s p rx q => ?_⟩
  obtain ⟨⟨xs, rfl⟩, q⟩ := q
  obtain ⟨a, us, ev, ht, _, _⟩ := rx.isTup
  refine ⟨⟨a, ev, by rw [hK]; exact J.plT ht.2⟩, ρ, G1, F1, R, m1, _, I.of J s p, q, fun ds G2 vs H2 F2 m2 J2 s2 p2 rs q2 => ?_⟩
  exact h2 _ ds v vs H2 G2 F2 R m2 QD Q J2 (rx.mono s2 p2) rs q2 ((post.next s p).next s2 p2)
/-! ### backwards -/
def dRevT (te : DTE) : DTE := fun ρ G Q => te ρ G fun d G1 => ∃ xs, d = .tup xs ∧ Q (.tup xs.reverse) G1
def dRevL (te : DTE) : DTA := fun ρ G Q => te ρ G fun d G1 => ∃ xs, listOf G1 d = some xs ∧ Q xs.reverse G1
theorem de_revT (hK : X.K = B.K) {k : Nat} (h : PE X e (liftE B te)) : PE X (.Subscript e (.Slice none none (some (.UnaryOp .USub (.Constant (.int 1) k p) p2)) p3) pos) (liftE B (dRevT te)) := by
  refine PE.imp (pe_revF h) fun σ H Q ⟨ρ, G, F, R, m, QD, I, t, post⟩ => ⟨ρ, G, F, R, m, _, I, t, fun d G1 v H1 F1 m1 J s p r q => ?_⟩
  obtain ⟨xs, rfl, q⟩ := q
  obtain ⟨a, us, rfl, ht, l, z⟩ := r.isTup
  exact ⟨a, us, rfl, by rw [hK]; exact sqT_mono J.subF ht.1, (post.next s p).newTup J l.reverse (by rw [List.length_reverse]; exact z) q⟩
theorem dn_revL (hK : X.K = B.K) {k : Nat} (h : PE X e (liftE B te)) : PE X (.Subscript e (.Slice none none (some (.UnaryOp .USub (.Constant (.int 1) k p) p2)) p3) pos) (liftN B (dRevL te)) := by
  refine PE.imp (pe_revL h) fun σ H Q ⟨ρ, G, F, R, m, QD, I, t, post⟩ => ⟨ρ, G, F, R, m, _, I, t, fun d G1 v H1 F1 m1 J s p r q => ?_⟩
  obtain ⟨xs, e, q⟩ := q
  obtain ⟨a, us, rfl, ht, l, z⟩ := J.list r e
  exact ⟨a, us, rfl, by rw [hK]; exact ht, (post.next s p).new J l.reverse (by rw [List.length_reverse]; exact z) q⟩
/-! ### len(set(..)) -/
def dLenSet (te : DTE) : DTE := fun ρ G Q => te ρ G fun d G1 => ∃ ns : List Int, itemsOf G1 d = some (ns.map D.int) ∧ ns.length ≤ 4000 ∧ ∀ n, DistN ns n → Q (.int (n : Nat)) G1
theorem de_lenSet (hK : X.K = B.K) (hg : Gl X "len") (hm : X.mg "len" = none) (hg2 : Gl X "set") (hm2 : X.mg "set" = none) (h : PE X e (liftE B te)) (hc : X.calm = true)
    (na : starEach [e] X.env = (false, eval e X.env) :: starEach [] X.env) : PE X (.Call (.Name "len" p) [.Call (.Name "set" p2) [e] [] q] [] pos) (liftE B (dLenSet te)) := by
  refine PE.imp (pe_lenSetD hg hm hg2 hm2 h hc na) fun σ H Q ⟨ρ, G, F, R, m, QD, I, t, post⟩ => ⟨ρ, G, F, R, m, _, I, t, fun d G1 v H1 F1 m1 J s p r q => ?_⟩
  obtain ⟨ns, e, z, q⟩ := q
  obtain ⟨a, us, rfl, ht, l, _⟩ := items_of J r e
  cases l.ints
  exact ⟨a, ns, rfl, by rw [hK]; exact ht, z, fun n hn => (post.next s p).now J (.int _) (q n hn)⟩
/-! ### list(range(..)) -/
def rangeI (a b : Int) : List Int := (List.range (b - a).toNat).map fun i => a + (i : Nat)
theorem rgV_ints (a b : Int) : rgV a b = (rangeI a b).map V.int := by
  unfold rgV rangeI; rw [List.map_map]; rfl
def rgN (a b : Int) (G : DHp) (Q : List D → DHp → Prop) : Prop := (-(2 ^ 62) ≤ a ∧ a < 2 ^ 62 ∧ -(2 ^ 62) ≤ b ∧ b < 2 ^ 62 ∧ (b - a).toNat ≤ 2 ^ 24) ∧ Q ((rangeI a b).map D.int) G
def dLR1 (te : DTE) : DTA := fun ρ G Q => te ρ G fun d G1 => ∃ n, d = .int n ∧ rgN 0 n G1 Q
def dLR2 (te te2 : DTE) : DTA := fun ρ G Q => te ρ G fun d G1 => te2 ρ G1 fun d2 G2 => ∃ a b, d = .int a ∧ d2 = .int b ∧ rgN a b G2 Q
theorem rg_end {F R H : Hp} {m : List Addr} {G : DHp} {QD : List D → DHp → Prop} {Q : VK} {a b : Int} (post : PostN B F R m QD Q) (J : HRel B H G F R m) (h : rgN a b G QD) : RgOk a b ∧ ∀ q, H q = none → Q (.ref q) (upd H q (.lst (rgV a b))) := by
  refine ⟨h.1, ?_⟩
  rw [rgV_ints]
  refine post.new J (RepL.of_ints _) ?_ h.2
  rw [List.length_map]
  unfold rangeI
  rw [List.length_map, List.length_range, sizeLine_eq]
  have := h.1.2.2.2.2
  omega
theorem dn_lr1 (hc : X.calm = true) (hg : Gl X "list") (hm : X.mg "list" = none) (hg2 : Gl X "range") (hm2 : X.mg "range" = none) (h : PE X e (liftE B te)) (na : starEach [e] X.env = (false, eval e X.env) :: starEach [] X.env)
    (nb : starEach [.Call (.Name "range" p2) [e] [] q] X.env = (false, eval (.Call (.Name "range" p2) [e] [] q) X.env) :: starEach [] X.env) : PE X (.Call (.Name "list" p) [.Call (.Name "range" p2) [e] [] q] [] pos) (liftN B (dLR1 te)) := by
  refine PE.imp (pe_listRg hc hg hm (prg_1 hg2 hm2 h na) nb) fun σ H Q ⟨ρ, G, F, R, m, QD, I, t, post⟩ => ⟨ρ, G, F, R, m, _, I, t, fun d G1 v H1 F1 m1 J s p r q => ?_⟩
  obtain ⟨n, rfl, q⟩ := q
  cases r.isInt
  exact ⟨n, rfl, rg_end (post.next s p) J q⟩
theorem dn_lr2 (hc : X.calm = true) (hg : Gl X "list") (hm : X.mg "list" = none) (hg2 : Gl X "range") (hm2 : X.mg "range" = none) (h : PE X e (liftE B te)) (h2 : PE X e2 (liftE B te2)) (na : starEach [e, e2] X.env = (false, eval e X.env) :: starEach [e2] X.env) (na2 : starEach [e2] X.env = (false, eval e2 X.env) :: starEach [] X.env)
    (hp : (backTo q (starEach [e2] X.env)).any (·.1) = false) (nb : starEach [.Call (.Name "range" p2) [e, e2] [] q] X.env = (false, eval (.Call (.Name "range" p2) [e, e2] [] q) X.env) :: starEach [] X.env) : PE X (.Call (.Name "list" p) [.Call (.Name "range" p2) [e, e2] [] q] [] pos) (liftN B (dLR2 te te2)) := by
  refine PE.imp (pe_listRg hc hg hm (prg_2 hg2 hm2 h h2 na na2 hp) nb) fun σ H Q ⟨ρ, G, F, R, m, QD, I, t, post⟩ => ?_
  refine bin_ok (rr := fun v u H2 => ∃ i j, v = .int i ∧ u = .int j ∧ RgOk i j ∧ ∀ q, H2 q = none → Q (.ref q) (upd H2 q (.lst (rgV i j)))) I t fun x y v u G' H' F' m' J s p rx ry q => ?_
  obtain ⟨a, b, rfl, rfl, q⟩ := q
  cases rx.isInt; cases ry.isInt
  exact ⟨a, b, rfl, rfl, rg_end (post.next s p) J q⟩
/-! ### dicts that nobody looks into -/
theorem PostV.newFd {F R H : Hp} {m : List Addr} {G : DHp} {QD : DK} {Q : VK} {kvs : List (Key × V)} (h : PostV B F R m QD Q) (I : HRel B H G F R m) (q : QD .fd G) {a : Addr} (ha : H a = none) : Q (.ref a) (upd H a (.dK kvs)) :=
  h .fd G (.ref a) _ _ m (I.frz ha (.dK kvs)) (same_upd (I.noF ha)) (List.prefix_refl _) (.fd upd_same) q
theorem de_dct0 : PE X (.Dict [] [] pos) (liftE B (dLit .fd)) := PE.imp pe_dnewK fun σ H Q ⟨ρ, G, F, R, m, QD, I, t, post⟩ a ha => post.newFd I.toHRel t ha
theorem de_dct1 {i j : Int} (he : PE X e (tC (.int i))) (he2 : PE X e2 (tC (.int j))) : PE X (.Dict [some e] [e2] pos) (liftE B (dLit .fd)) := by
  refine PE.imp (pe_disp (pps_cons he he2 pps_nil) rfl rfl (by simp) (by show 1 ≤ 15; omega)) fun σ H Q ⟨ρ, G, F, R, m, QD, I, t, post⟩ a ha => ?_
  refine ⟨upd_same, [(.inl i, .int j)], rfl, by show 1 ≤ 15; omega, ?_⟩
  rw [upd_upd]
  exact post.newFd I.toHRel t ha
end
end DL

/-! DLf: what is walked, loops, comprehensions, statements. -/
namespace DL
open PySem PySem.Spec PyProof.Rows L2

/-! ### what is walked -/
abbrev DTI := DSt → DHp → (List D → Bool → (DHp → Prop) → DHp → Prop) → Prop
def ItOk (B : Bx) (F : Hp) (m : List Addr) (J : It) (items : List D) (live : DHp → Prop) : Prop :=
  ∀ (i : Nat) H G F' R m', HRel B H G F' R m' → Same F F' → m <+: m' → live G →
    (items.length ≤ i → J.stop i H) ∧ (∀ x, items[i]? = some x → J.go i H ∧ ∀ v H', J.yld i H v H' → ∃ F'', HRel B H' G F'' R m' ∧ Same F' F'' ∧ Rep B.K F'' m' x v)
def PostI (B : Bx) (F R : Hp) (m : List Addr) (QD : List D → Bool → (DHp → Prop) → DHp → Prop) (Rk : It → Hp → Prop) : Prop :=
  ∀ items bd live G' J H' F' m', HRel B H' G' F' R m' → Same F F' → m <+: m' → ItOk B F' m' J items live → (bd = true → items.length ≤ sizeLine) → QD items bd live G' → Rk J H'
def liftI (B : Bx) (td : DTI) : TI := fun σ H Rk => ∃ ρ G F R m QD, Rel B σ H ρ G F R m ∧ td ρ G QD ∧ PostI B F R m QD Rk
/-- a list, a tuple, a text -/
def seqI (d : D) (G : DHp) (Q : List D → Bool → (DHp → Prop) → DHp → Prop) : Prop := match d with
  | .tup xs => Q xs true (fun _ => True) G
  | .fl xs => Q xs true (fun _ => True) G
  | .str z => Q (z.cps.toList.map fun c => D.str ⟨#[c]⟩) false (fun _ => True) G
  | d => ∃ xs, listOf G d = some xs ∧ Q xs true (fun G' => listOf G' d = some xs) G
def dSeq (te : DTE) : DTI := fun ρ G Q => te ρ G fun d G1 => seqI d G1 Q
def dRange1 (te : DTE) : DTI := fun ρ G Q => te ρ G fun d G1 => match d with
  | .int j => -(2 ^ 62) ≤ j ∧ j < 2 ^ 62 ∧ Q ((List.range j.toNat).map fun (i : Nat) => D.int (0 + (i : Int))) false (fun _ => True) G1
  | _ => False
def dRange2 (ta tb : DTE) : DTI := fun ρ G Q => ta ρ G fun d G1 => tb ρ G1 fun e G2 => match d, e with
  | .int i, .int j => (-(2 ^ 62) ≤ i ∧ i < 2 ^ 62 ∧ -(2 ^ 62) ≤ j ∧ j < 2 ^ 62) ∧ Q ((List.range (j - i).toNat).map fun (k : Nat) => D.int (i + (k : Int))) false (fun _ => True) G2
  | _, _ => False
section
variable {X : Cx} {B : Bx} {e e2 tg : Expr} {te te2 : DTE} {p pos : Pos}
def iSeq (K : PySem.W.Frag) (tl : TE) : TI := fun σ H R => tl σ H fun x H1 => (∃ a xs, x = .ref a ∧ SqL K H1 a xs ∧ R (Itl K a) H1) ∨ (∃ a xs, x = .ref a ∧ SqT K H1 a xs ∧ R (Itt K a) H1) ∨ ∃ z, x = .str z ∧ R (Its z) H1
theorem pi_seq {t : TE} (h : PE X e t) : PI X tg e (iSeq X.K t) := by
  refine ⟨fun pins s σ H R I q => ?_⟩
  refine thn (h.run pins s σ H _ I q) fun v s1 ⟨x, H1, I1, r1, q1⟩ => ?_
  have one : ∀ {J : It} {tn : Nat → Heap → Prop} (o : Obj), Turn X.prog X.w X.K tg J [s1.heap.objs.size] s1.heap.objs.size tn → tn 0 (s1.heap.push o) → R J H1 → PIE X pins σ tg R (.ref s1.heap.objs.size) { s1 with heap := s1.heap.push o } :=
    fun o T h0 qr => pi_one (tk := s1.toks) I1 o T h0 qr
  rcases q1 with ⟨a, xs, rfl, hq, q⟩ | ⟨a, xs, rfl, hq, q⟩ | ⟨z, rfl, q⟩
  · cases r1
    obtain ⟨its, rv, pl, _⟩ := I1.list hq
    exact wpAny_pyIter_list pl.isList (one _ (turn_list a _) ⟨_, Heap.get?_push_size _ rfl, rfl, rfl⟩ q)
  · cases r1
    obtain ⟨its, rv, pl, _⟩ := I1.tuple hq
    exact wpAny_pyIter_tuple (show s1.heap.IsTuple a its.toArray from pl) (one _ (turn_tuple a _) ⟨_, Heap.get?_push_size _ rfl, rfl, rfl⟩ q)
  · obtain ⟨t, rfl⟩ := r1
    have two : ∀ ty, (ty = "str_ascii_iterator" ∨ ty = "str_iterator") → PIE X pins σ tg R (.ref s1.heap.objs.size) { s1 with heap := s1.heap.push { cls := .type ty, data := .fields #[.str z t, .int 0 0] } } :=
      fun ty hty => one _ (turn_str _ z t ty hty) ⟨_, Heap.get?_push_size _ rfl, rfl, rfl⟩ q
    by_cases ha : z.cps.all (· < 128) = true
    · exact wpAny_pyIter_ascii ha (two _ (.inl rfl))
    · exact wpAny_pyIter_wide (by simpa using ha) (two _ (.inr rfl))
/-- a walk over what Walk tells -/
theorem itok_tup {F : Hp} {m : List Addr} {a : Addr} {xs : List D} {vs : List V} (t : SqT B.K F a vs) (l : RepL B.K F m xs vs) : ItOk B F m (Itt B.K a) xs (fun _ => True) := fun i H G F' R m' I s p _ => by
  have t' : SqT B.K H a vs := sqT_mono (s.trans I.subF) t
  refine ⟨fun h => ⟨vs, t', by rw [← l.length]; exact h⟩, fun x h => ?_⟩
  obtain ⟨v, e, r⟩ := l.get h
  refine ⟨⟨vs, v, t', e⟩, fun w H' y => ?_⟩
  obtain ⟨rfl, y⟩ := y
  have e2 := y vs t'
  rw [e] at e2; cases e2
  exact ⟨F', I, Same.refl _, r.mono s p⟩
theorem itok_str {F : Hp} {m : List Addr} {z : Str} : ItOk B F m (Its z) (z.cps.toList.map fun c => D.str ⟨#[c]⟩) (fun _ => True) := fun i H G F' R m' I s p _ => by
  refine ⟨fun h => (by simpa using h : z.cps.size ≤ i), fun x h => ?_⟩
  rw [List.getElem?_map] at h
  have hi : i < z.cps.size := by
    cases e : z.cps.toList[i]? with
    | none => rw [e] at h; cases h
    | some c => have := (List.getElem?_eq_some_iff.mp e).1; simpa using this
  refine ⟨hi, fun w H' y => ?_⟩
  obtain ⟨rfl, c, e, rfl⟩ := y
  rw [Array.getElem?_toList, e] at h
  cases h
  exact ⟨F', I, Same.refl _, .str _⟩
/-- a list that lies at a in every heap with live -/
theorem itok_list {F : Hp} {m : List Addr} {a : Addr} {xs : List D} {live : DHp → Prop} (h : ∀ H G F' R m', HRel B H G F' R m' → Same F F' → m <+: m' → live G → ∃ vs, SqL B.K H a vs ∧ RepL B.K F' m' xs vs) : ItOk B F m (Itl B.K a) xs live := fun i H G F' R m' I s p lv => by
  obtain ⟨vs, t, l⟩ := h H G F' R m' I s p lv
  refine ⟨fun h => ⟨vs, t, by rw [← l.length]; exact h⟩, fun x h => ?_⟩
  obtain ⟨v, e, r⟩ := l.get h
  refine ⟨⟨vs, v, t, e⟩, fun w H' y => ?_⟩
  obtain ⟨rfl, y⟩ := y
  have e2 := y vs t
  rw [e] at e2; cases e2
  exact ⟨F', I, Same.refl _, r⟩
theorem di_seq (hK : X.K = B.K) (h : PE X e (liftE B te)) : PI X tg e (liftI B (dSeq te)) := by
  refine PI.imp (pi_seq h) fun σ H Rk ⟨ρ, G, F, R, m, QD, I, t, post⟩ => ⟨ρ, G, F, R, m, _, I, t, fun d G1 v H1 F1 m1 J s p r q => ?_⟩
  rw [hK]
  have lst : ∀ xs, listOf G1 d = some xs → QD xs true (fun G' => listOf G' d = some xs) G1 → ∃ a vs, v = .ref a ∧ SqL B.K H1 a vs ∧ Rk (Itl B.K a) H1 := fun xs e q => by
    obtain ⟨a, vs, e1, t1, l, z⟩ := J.list r e
    subst e1
    refine ⟨a, vs, rfl, t1, post xs true _ G1 _ H1 F1 m1 J s p (itok_list fun H G' F' R' m' I' s' p' lv => ?_) (fun _ => z) q⟩
    obtain ⟨b, us, e2, t2, l2, _⟩ := I'.list (r.mono s' p') lv
    cases e2
    exact ⟨us, t2, l2⟩
  cases d with
  | tup xs =>
    obtain ⟨a, vs, e1, t1, l, z⟩ := r.isTup
    exact .inr (.inl ⟨a, vs, e1, sqT_mono J.subF t1.1, post xs true _ G1 _ H1 F1 m1 J s p (itok_tup t1.1 l) (fun _ => z) q⟩)
  | str z => exact .inr (.inr ⟨z, r.isStr, post _ false _ G1 _ H1 F1 m1 J s p itok_str (fun h => nomatch h) q⟩)
  | fl xs =>
    obtain ⟨a, vs, e1, t1, l, z⟩ := J.list r (xs := xs) rfl
    subst e1
    refine .inl ⟨a, vs, rfl, t1, post xs true _ G1 _ H1 F1 m1 J s p (itok_list fun H G' F' R' m' I' s' p' _ => ?_) (fun _ => z) q⟩
    obtain ⟨b, us, e2, t2, l2, _⟩ := I'.list (r.mono s' p') (xs := xs) rfl
    cases e2
    exact ⟨us, t2, l2⟩
  | _ => obtain ⟨xs, e, q⟩ := q; exact .inl (lst xs e q)
theorem itok_rng {F : Hp} {m : List Addr} {lo : Int} {n : Nat} : ItOk B F m (Itr lo n) ((List.range n).map fun (k : Nat) => D.int (lo + (k : Int))) (fun _ => True) := fun i H G F' R m' I s p _ => by
  refine ⟨fun h => (by simpa using h : n ≤ i), fun x h => ?_⟩
  rw [List.getElem?_map] at h
  have hi : i < n := by
    cases e : (List.range n)[i]? with
    | none => rw [e] at h; cases h
    | some c => have := (List.getElem?_eq_some_iff.mp e).1; simpa using this
  refine ⟨hi, fun w H' y => ?_⟩
  obtain ⟨rfl, rfl⟩ := y
  rw [List.getElem?_range hi] at h
  cases h
  exact ⟨F', I, Same.refl _, .int _⟩
theorem di_range1 (hg : Gl X "range") (hm : X.mg "range" = none) (h : PE X e (liftE B te)) (hs : starEach [e] X.env = [(false, eval e X.env)]) : PI X tg (.Call (.Name "range" p) [e] [] pos) (liftI B (dRange1 te)) := by
  refine PI.imp (pi_range1 hg hm (pa_cons h pa_nil hs) hs) fun σ H Rk ⟨ρ, G, F, R, m, QD, I, t, post⟩ => ⟨ρ, G, F, R, m, _, I, t, fun d G1 v H1 F1 m1 J s p r q => ?_⟩
  cases d with
  | int j =>
    cases r.isInt
    obtain ⟨h1, h2, q⟩ := q
    exact ⟨j, rfl, h1, h2, post _ false _ G1 _ H1 F1 m1 J s p itok_rng (fun h => nomatch h) q⟩
  | _ => exact q.elim
theorem di_range2 (hg : Gl X "range") (hm : X.mg "range" = none) (h : PE X e (liftE B te)) (h2 : PE X e2 (liftE B te2)) (hs : starEach [e, e2] X.env = [(false, eval e X.env), (false, eval e2 X.env)]) (hs2 : starEach [e2] X.env = [(false, eval e2 X.env)]) :
    PI X tg (.Call (.Name "range" p) [e, e2] [] pos) (liftI B (dRange2 te te2)) := by
  have ha : PA X [e, e2] (tCons (liftE B te) (tCons (liftE B te2) tNil)) := pa_cons h (pa_cons h2 pa_nil hs2) (by rw [hs, hs2])
  refine PI.imp (pi_range2 hg hm ha hs hs2) fun σ H Rk ⟨ρ, G, F, R, m, QD, I, t, post⟩ => ?_
  refine bin_ok (rr := fun x y H2 => ∃ i j : Int, [x, y] = [.int i, .int j] ∧ (-(2 ^ 62) ≤ i ∧ i < 2 ^ 62 ∧ -(2 ^ 62) ≤ j ∧ j < 2 ^ 62) ∧ Rk (Itr i (j - i).toNat) H2) I t fun x y v u G' H' F' m' J s p rx ry q => ?_
  cases x with
  | int i =>
    cases y with
    | int j =>
      cases rx.isInt; cases ry.isInt
      exact ⟨i, j, rfl, q.1, post _ false _ G' _ H' F' m' J s p itok_rng (fun h => nomatch h) q.2⟩
    | _ => exact q.elim
  | _ => exact q.elim
/-! ### pairs -/
def pairsI (xs ys : List D) : List D := List.zipWith (fun x y => D.tw [x, y]) xs ys
theorem pairsI_get {xs ys : List D} {i : Nat} {x : D} (h : (pairsI xs ys)[i]? = some x) : ∃ a b, xs[i]? = some a ∧ ys[i]? = some b ∧ x = .tw [a, b] := by
  unfold pairsI at h
  rw [List.getElem?_zipWith] at h
  cases e : xs[i]? with
  | none => rw [e] at h; cases h
  | some a =>
    cases e2 : ys[i]? with
    | none => rw [e, e2] at h; cases h
    | some b => rw [e, e2] at h; cases h; exact ⟨a, b, rfl, rfl, rfl⟩
/-- a pair is laid, frozen -/
theorem pair_laid {H F R : Hp} {G : DHp} {m : List Addr} {T : Addr} {a b : D} {x y : V} (I : HRel B H G F R m) (hT : H T = none) (ra : Rep B.K F m a x) (rb : Rep B.K F m b y) :
    ∃ F'', HRel B (upd H T (.tup [x, y])) G F'' R m ∧ Same F F'' ∧ Rep B.K F'' m (.tw [a, b]) (.ref T) :=
  ⟨_, I.frz hT _, same_upd (I.noF hT), .tw (SqT.of upd_same) (.cons (ra.mono (same_upd (I.noF hT)) (List.prefix_refl _)) (.cons (rb.mono (same_upd (I.noF hT)) (List.prefix_refl _)) .nil)) (by show 2 ≤ sizeLine; decide)⟩
/-- where a list's or a tuple's items lie -/
def Lies (B : Bx) (F : Hp) (m : List Addr) (xs : List D) (live : DHp → Prop) (at_ : Hp → List V → Prop) : Prop :=
  ∀ H G F' R m', HRel B H G F' R m' → Same F F' → m <+: m' → live G → ∃ vs, at_ H vs ∧ RepL B.K F' m' xs vs
theorem itok_zip {F : Hp} {m : List Addr} {a b : Addr} {xs ys : List D} {lx ly : DHp → Prop} (h : Lies B F m xs lx fun H vs => SqL B.K H a vs) (k : Lies B F m ys ly fun H vs => SqL B.K H b vs) :
    ItOk B F m (Itz B.K a b) (pairsI xs ys) (fun G => lx G ∧ ly G) := fun i H G F' R m' I s p lv => by
  obtain ⟨vs, t, l⟩ := h H G F' R m' I s p lv.1
  obtain ⟨us, t2, l2⟩ := k H G F' R m' I s p lv.2
  refine ⟨fun h => ⟨vs, us, t, t2, ?_⟩, fun x h => ?_⟩
  · unfold pairsI at h
    rw [List.length_zipWith, l.length, l2.length] at h
    omega
  · obtain ⟨c, d, e1, e2, rfl⟩ := pairsI_get h
    obtain ⟨v, f1, r1⟩ := l.get e1
    obtain ⟨u, f2, r2⟩ := l2.get e2
    refine ⟨⟨vs, us, v, u, t, t2, f1, f2⟩, fun w H' y => ?_⟩
    obtain ⟨T, x', y', rfl, hT, rfl, g1, g2⟩ := y
    have z1 := g1 vs t
    have z2 := g2 us t2
    rw [f1] at z1; rw [f2] at z2
    cases z1; cases z2
    exact pair_laid I hT r1 r2
theorem itok_zipT {F : Hp} {m : List Addr} {a b : Addr} {xs ys : List D} {lx ly : DHp → Prop} (h : Lies B F m xs lx fun H vs => SqT B.K H a vs) (k : Lies B F m ys ly fun H vs => SqT B.K H b vs) :
    ItOk B F m (RZ.ItzT B.K a b) (pairsI xs ys) (fun G => lx G ∧ ly G) := fun i H G F' R m' I s p lv => by
  obtain ⟨vs, t, l⟩ := h H G F' R m' I s p lv.1
  obtain ⟨us, t2, l2⟩ := k H G F' R m' I s p lv.2
  refine ⟨fun h => ⟨vs, us, t, t2, ?_⟩, fun x h => ?_⟩
  · unfold pairsI at h
    rw [List.length_zipWith, l.length, l2.length] at h
    omega
  · obtain ⟨c, d, e1, e2, rfl⟩ := pairsI_get h
    obtain ⟨v, f1, r1⟩ := l.get e1
    obtain ⟨u, f2, r2⟩ := l2.get e2
    refine ⟨⟨vs, us, v, u, t, t2, f1, f2⟩, fun w H' y => ?_⟩
    obtain ⟨T, x', y', rfl, hT, rfl, g1, g2⟩ := y
    have z1 := g1 vs t
    have z2 := g2 us t2
    rw [f1] at z1; rw [f2] at z2
    cases z1; cases z2
    exact pair_laid I hT r1 r2
def idxI (xs : List D) : List D := pairsI ((List.range xs.length).map fun (k : Nat) => D.int (k : Int)) xs
theorem itok_enum {F : Hp} {m : List Addr} {a : Addr} {xs : List D} {lx : DHp → Prop} (h : Lies B F m xs lx fun H vs => SqL B.K H a vs) : ItOk B F m (Ite B.K a) (idxI xs) lx := fun i H G F' R m' I s p lv => by
  obtain ⟨vs, t, l⟩ := h H G F' R m' I s p lv
  refine ⟨fun h => ⟨vs, t, ?_⟩, fun x h => ?_⟩
  · unfold idxI pairsI at h
    rw [List.length_zipWith, List.length_map, List.length_range, l.length] at h
    omega
  · obtain ⟨c, d, e1, e2, rfl⟩ := pairsI_get h
    obtain ⟨u, f2, r2⟩ := l.get e2
    have hi : i < xs.length := (List.getElem?_eq_some_iff.mp e2).1
    rw [List.getElem?_map, List.getElem?_range hi] at e1
    cases e1
    refine ⟨⟨vs, u, t, f2⟩, fun w H' y => ?_⟩
    obtain ⟨T, y', rfl, hT, rfl, g2⟩ := y
    have z2 := g2 vs t
    rw [f2] at z2
    cases z2
    exact pair_laid I hT (.int _) r2
theorem itok_rev {F : Hp} {m : List Addr} {a : Addr} {xs : List D} {lx : DHp → Prop} (h : Lies B F m xs lx fun H vs => SqL B.K H a vs) : ItOk B F m (Itv B.K a xs.length) xs.reverse lx := fun i H G F' R m' I s p lv => by
  obtain ⟨vs, t, l⟩ := h H G F' R m' I s p lv
  refine ⟨fun h => (by rw [List.length_reverse] at h; exact h), fun x h => ?_⟩
  have hi : i < xs.length := by have := (List.getElem?_eq_some_iff.mp h).1; rwa [List.length_reverse] at this
  rw [List.getElem?_reverse hi] at h
  obtain ⟨v, e, r⟩ := l.get h
  refine ⟨⟨hi, vs, v, t, e⟩, fun w H' y => ?_⟩
  obtain ⟨rfl, y⟩ := y
  have e2 := y vs t
  rw [e] at e2; cases e2
  exact ⟨F', I, Same.refl _, r⟩
theorem lies_list {F : Hp} {m : List Addr} {d : D} {a : Addr} {xs : List D} (r : Rep B.K F m d (.ref a)) : Lies B F m xs (fun G' => listOf G' d = some xs) fun H vs => SqL B.K H a vs := fun H G F' R m' I s p lv => by
  obtain ⟨b, us, e2, t2, l2, _⟩ := I.list (r.mono s p) lv
  cases e2
  exact ⟨us, t2, l2⟩
theorem lies_tup {F : Hp} {m : List Addr} {a : Addr} {xs : List D} {vs : List V} (t : SqT B.K F a vs) (l : RepL B.K F m xs vs) : Lies B F m xs (fun _ => True) fun H vs => SqT B.K H a vs := fun H G F' R m' I s p _ => ⟨vs, sqT_mono (s.trans I.subF) t, l.mono s p⟩
def revI (d : D) (G : DHp) (Q : List D → Bool → (DHp → Prop) → DHp → Prop) : Prop := ∃ xs, listOf G d = some xs ∧ Q xs.reverse true (fun G' => listOf G' d = some xs) G
def dRev (te : DTE) : DTI := fun ρ G Q => te ρ G fun d G1 => revI d G1 Q
theorem di_rev (hK : X.K = B.K) (hg : Gl X "reversed") (hm : X.mg "reversed" = none) (h : PE X e (liftE B te)) (hs : starEach [e] X.env = (false, eval e X.env) :: starEach [] X.env) : PI X tg (.Call (.Name "reversed" p) [e] [] pos) (liftI B (dRev te)) := by
  refine PI.imp (RT.pi_revA hg hm h hs) fun σ H Rk ⟨ρ, G, F, R, m, QD, I, t, post⟩ => ⟨ρ, G, F, R, m, _, I, t, fun d G1 v H1 F1 m1 J s p r q => ?_⟩
  rw [hK]
  obtain ⟨xs, e, q⟩ := q
  obtain ⟨a, vs, rfl, t1, l, z⟩ := J.list r e
  refine ⟨a, vs, rfl, .inl ⟨t1, ?_⟩⟩
  rw [← l.length]
  exact post _ true _ G1 _ H1 F1 m1 J s p (itok_rev (lies_list r)) (fun _ => by rw [List.length_reverse]; exact z) q
def zipI (x y : D) (G : DHp) (Q : List D → Bool → (DHp → Prop) → DHp → Prop) : Prop := match x, y with
  | .tup xs, .tup ys => Q (pairsI xs ys) true (fun _ => True) G
  | x, y => ∃ xs ys, listOf G x = some xs ∧ listOf G y = some ys ∧ Q (pairsI xs ys) true (fun G' => listOf G' x = some xs ∧ listOf G' y = some ys) G
def dZip (ta tb : DTE) : DTI := fun ρ G Q => ta ρ G fun x G1 => tb ρ G1 fun y G2 => zipI x y G2 Q
theorem pairsI_len (xs ys : List D) : (pairsI xs ys).length ≤ xs.length := by unfold pairsI; rw [List.length_zipWith]; omega
theorem di_zip {elts : List Expr} {kk : Nat} {tpos : Pos} (hK : X.K = B.K) (hg : Gl X "zip") (hm : X.mg "zip" = none) (h : PE X e (liftE B te)) (h2 : PE X e2 (liftE B te2)) (hs : starEach [e, e2] X.env = (false, eval e X.env) :: starEach [e2] X.env) (hs2 : starEach [e2] X.env = (false, eval e2 X.env) :: starEach [] X.env)
    (hpl : (backTo pos (starEach [e2] X.env)).any (·.1) = false) : PI X (.Tuple elts kk tpos) (.Call (.Name "zip" p) [e, e2] [] pos) (liftI B (dZip te te2)) := by
  have ha : PA X [e, e2] (tCons (liftE B te) (tCons (liftE B te2) tNil)) := pa_cons h (pa_cons h2 pa_nil hs2) hs
  refine PI.imp (RZ.pi_zipA hg hm ha hs hpl) fun σ H Rk ⟨ρ, G, F, R, m, QD, I, t, post⟩ => ?_
  rw [hK]
  refine bin_ok (rr := fun x y H1 => ∃ a b xs ys, [x, y] = [.ref a, .ref b] ∧ ((SqL B.K H1 a xs ∧ SqL B.K H1 b ys ∧ Rk (Itz B.K a b) H1) ∨ (SqT B.K H1 a xs ∧ SqT B.K H1 b ys ∧ Rk (RZ.ItzT B.K a b) H1))) I t fun x y v u G' H' F' m' J s p rx ry q => ?_
  unfold zipI at q
  split at q
  · rename_i xs ys
    obtain ⟨a, vs, rfl, t1, l1, z1⟩ := rx.isTup
    obtain ⟨b, us, rfl, t2, l2, z2⟩ := ry.isTup
    refine ⟨a, b, vs, us, rfl, .inr ⟨sqT_mono J.subF t1.1, sqT_mono J.subF t2.1, post _ true _ G' _ H' F' m' J s p ?_ (fun _ => Nat.le_trans (pairsI_len _ _) z1) q⟩⟩
    intro i H G F' R m' I s p lv
    exact itok_zipT (lies_tup t1.1 l1) (lies_tup t2.1 l2) i H G F' R m' I s p ⟨trivial, trivial⟩
  · obtain ⟨xs, ys, e1, e2, q⟩ := q
    obtain ⟨a, vs, rfl, t1, l1, z1⟩ := J.list rx e1
    obtain ⟨b, us, rfl, t2, l2, z2⟩ := J.list ry e2
    exact ⟨a, b, vs, us, rfl, .inl ⟨t1, t2, post _ true _ G' _ H' F' m' J s p (itok_zip (lies_list rx) (lies_list ry)) (fun _ => Nat.le_trans (pairsI_len _ _) z1) q⟩⟩
def enumI (x : D) (G : DHp) (Q : List D → Bool → (DHp → Prop) → DHp → Prop) : Prop := ∃ xs, listOf G x = some xs ∧ Q (idxI xs) true (fun G' => listOf G' x = some xs) G
def dEnum (te : DTE) : DTI := fun ρ G Q => te ρ G fun d G1 => enumI d G1 Q
theorem idxI_len (xs : List D) : (idxI xs).length = xs.length := by unfold idxI pairsI; rw [List.length_zipWith, List.length_map, List.length_range, Nat.min_self]
theorem di_enum {elts : List Expr} {kk : Nat} {tpos : Pos} (hK : X.K = B.K) (hg : Gl X "enumerate") (hm : X.mg "enumerate" = none) (h : PE X e (liftE B te)) (hs : starEach [e] X.env = [(false, eval e X.env)]) :
    PI X (.Tuple elts kk tpos) (.Call (.Name "enumerate" p) [e] [] pos) (liftI B (dEnum te)) := by
  refine PI.imp (pi_enum hg hm (pa_cons h pa_nil hs) hs) fun σ H Rk ⟨ρ, G, F, R, m, QD, I, t, post⟩ => ⟨ρ, G, F, R, m, _, I, t, fun d G1 v H1 F1 m1 J s p r q => ?_⟩
  rw [hK]
  obtain ⟨xs, e, q⟩ := q
  obtain ⟨a, vs, rfl, t1, l, z⟩ := J.list r e
  exact ⟨a, vs, rfl, t1, post _ true _ G1 _ H1 F1 m1 J s p (itok_enum (lies_list r)) (fun _ => by rw [idxI_len]; exact z) q⟩
end

/-! ### targets: names, tuples of names -/
inductive Tg where
  | nm (i : Nat)
  | tp (ts : List Tg)
mutual
def Tg.v (K : PySem.W.Frag) : Tg → TG
  | .nm i => gName i
  | .tp ts => gTup K ts.length (Tg.vs K ts)
def Tg.vs (K : PySem.W.Frag) : List Tg → TGs
  | [] => gNil
  | t :: ts => gCons (Tg.v K t) (Tg.vs K ts)
end
mutual
/-- the slots behind a target's store -/
def Tg.st : Tg → D → DSt → (DSt → Prop) → Prop
  | .nm i, d, ρ, k => k (ρ.set i (some d))
  | .tp ts, d, ρ, k => match d with
    | .tup xs => xs.length = ts.length ∧ Tg.sts ts xs ρ k
    | .tw xs => xs.length = ts.length ∧ Tg.sts ts xs ρ k
    | _ => False
def Tg.sts : List Tg → List D → DSt → (DSt → Prop) → Prop
  | [], [], ρ, k => k ρ
  | t :: ts, d :: ds, ρ, k => Tg.st t d ρ fun ρ' => Tg.sts ts ds ρ' k
  | _, _, _, _ => False
end
mutual
def Tg.own (vs : List Nat) : Tg → Bool
  | .nm i => vs.contains i
  | .tp ts => Tg.owns vs ts
def Tg.owns (vs : List Nat) : List Tg → Bool
  | [] => true
  | t :: ts => Tg.own vs t && Tg.owns vs ts
end
section
variable {B : Bx} {H F R : Hp} {G : DHp} {m : List Addr}
theorem Rel.put {σ : L2.St} {ρ : DSt} (I : Rel B σ H ρ G F R m) {d : D} {v : V} (r : Rep B.K F m d v) (i : Nat) : Rel B (σ.set i (some v)) H (ρ.set i (some d)) G F R m :=
  ⟨I.toHRel, by rw [List.length_set, List.length_set]; exact I.slen, fun j e h => by
      by_cases hj : j = i
      · subst hj
        by_cases hl : j < ρ.length
        · rw [List.getElem?_set_self hl] at h
          cases h
          exact ⟨v, List.getElem?_set_self (by rw [← I.slen]; exact hl), r⟩
        · rw [List.getElem?_eq_none (by rw [List.length_set]; omega)] at h; cases h
      · rw [List.getElem?_set_ne (Ne.symm hj)] at h ⊢
        exact I.slot j e h⟩
theorem wipe_set {σ : L2.St} {i : Nat} {v : V} : ∀ {vs : List Nat}, vs.contains i = true → wipe (σ.set i (some v)) vs = wipe σ vs
  | [], h => by simp at h
  | j :: vs, h => by
    unfold wipe
    by_cases hj : i ∈ vs
    · rw [wipe_set (by simpa using hj)]
    · have e : i = j := by
        have : i = j ∨ i ∈ vs := by simpa using h
        exact this.resolve_right hj
      subst e
      have key : ∀ (us : List Nat), i ∉ us → wipe (σ.set i (some v)) us = (wipe σ us).set i (some v) := by
        intro us
        induction us with
        | nil => intro _; rfl
        | cons k us ih =>
          intro hk
          have : i ≠ k ∧ i ∉ us := by simpa using hk
          unfold wipe
          rw [ih this.2, List.set_comm _ _ this.1]
      rw [key vs hj, List.set_set]
mutual
theorem Tg.ok : ∀ (t : Tg) {d : D} {v : V} {σ : L2.St} {ρ : DSt} {k : DSt → Prop} {Q : L2.St → Hp → Prop}, Rel B σ H ρ G F R m → Rep B.K F m d v → t.st d ρ k →
    (∀ ρ' σ', Rel B σ' H ρ' G F R m → (∀ vs, t.own vs = true → wipe σ' vs = wipe σ vs) → k ρ' → Q σ' H) → t.v B.K v σ H Q
  | .nm i, d, v, σ, ρ, k, Q, I, r, h, q => q _ _ (I.put r i) (fun vs hv => wipe_set hv) h
  | .tp ts, d, v, σ, ρ, k, Q, I, r, h, q => by
    cases d with
    | tup xs =>
      obtain ⟨p, us, rfl, t, l, z⟩ := r.isTup
      exact ⟨p, us, rfl, sqT_mono I.subF t.1, by rw [← l.length]; exact h.1, Tg.oks ts I l h.2 fun ρ' σ' J w kk => q ρ' σ' J (fun vs hv => w vs hv) kk⟩
    | tw xs =>
      cases r with | tw t l z => exact ⟨_, _, rfl, sqT_mono I.subF t, by rw [← l.length]; exact h.1, Tg.oks ts I l h.2 fun ρ' σ' J w kk => q ρ' σ' J (fun vs hv => w vs hv) kk⟩
    | _ => exact h.elim
theorem Tg.oks : ∀ (ts : List Tg) {ds : List D} {us : List V} {σ : L2.St} {ρ : DSt} {k : DSt → Prop} {Q : L2.St → Hp → Prop}, Rel B σ H ρ G F R m → RepL B.K F m ds us → Tg.sts ts ds ρ k →
    (∀ ρ' σ', Rel B σ' H ρ' G F R m → (∀ vs, Tg.owns vs ts = true → wipe σ' vs = wipe σ vs) → k ρ' → Q σ' H) → Tg.vs B.K ts us σ H Q
  | [], ds, us, σ, ρ, k, Q, I, l, h, q => by
    cases l with
    | nil => exact ⟨rfl, q ρ σ I (fun _ _ => rfl) h⟩
    | cons r t => exact h.elim
  | t :: ts, ds, us, σ, ρ, k, Q, I, l, h, q => by
    cases l with
    | nil => exact h.elim
    | cons r l =>
      refine ⟨_, _, rfl, Tg.ok t I r h fun ρ1 σ1 I1 w1 h1 => Tg.oks ts I1 l h1 fun ρ2 σ2 I2 w2 h2 => q ρ2 σ2 I2 (fun vs hv => ?_) h2⟩
      have hv' : t.own vs = true ∧ Tg.owns vs ts = true := by simpa [Tg.owns] using hv
      rw [w2 vs hv'.2, w1 vs hv'.1]
end
end
end DL

/-! DLg: loops, comprehensions, statements. -/
namespace DL
open PySem PySem.Spec PyProof.Rows L2

def wipeD (ρ : DSt) : List Nat → DSt
  | [] => ρ
  | v :: vs => (wipeD ρ vs).set v none
theorem wipe_get {α : Type} (f : List (Option α) → List Nat → List (Option α)) (f0 : ∀ l, f l [] = l) (f1 : ∀ l v vs, f l (v :: vs) = (f l vs).set v none) (l : List (Option α)) :
    ∀ (vs : List Nat) (i : Nat), (f l vs)[i]? = if i ∈ vs then l[i]?.map (fun _ => none) else l[i]?
  | [], i => by rw [f0, if_neg (by simp)]
  | v :: vs, i => by
    rw [f1]
    by_cases h : i = v
    · subst h
      rw [if_pos List.mem_cons_self, List.getElem?_set, if_pos rfl]
      have z := wipe_get f f0 f1 l vs i
      by_cases hl : i < l.length
      · have : i < (f l vs).length := by
          rcases Nat.lt_or_ge i (f l vs).length with h | h
          · exact h
          · rw [List.getElem?_eq_none h, List.getElem?_eq_getElem hl] at z
            split at z <;> cases z
        rw [if_pos this, List.getElem?_eq_getElem hl]; rfl
      · have : ¬ i < (f l vs).length := by
          intro h
          rw [List.getElem?_eq_getElem h, List.getElem?_eq_none (by omega)] at z
          split at z <;> cases z
        rw [if_neg this, List.getElem?_eq_none (by omega)]; rfl
    · rw [List.getElem?_set_ne (Ne.symm h), wipe_get f f0 f1 l vs i]
      by_cases hv : i ∈ vs
      · rw [if_pos hv, if_pos (List.mem_cons_of_mem _ hv)]
      · rw [if_neg hv, if_neg (by simp [h, hv])]
theorem wipe_at (σ : L2.St) (vs : List Nat) (i : Nat) : (wipe σ vs)[i]? = if i ∈ vs then σ[i]?.map (fun _ => none) else σ[i]? := wipe_get wipe (fun _ => rfl) (fun _ _ _ => rfl) σ vs i
theorem wipeD_at (ρ : DSt) (vs : List Nat) (i : Nat) : (wipeD ρ vs)[i]? = if i ∈ vs then ρ[i]?.map (fun _ => none) else ρ[i]? := wipe_get wipeD (fun _ => rfl) (fun _ _ _ => rfl) ρ vs i
theorem wipe_wipe (σ : L2.St) (vs : List Nat) : wipe (wipe σ vs) vs = wipe σ vs := by
  apply List.ext_getElem?
  intro i
  rw [wipe_at, wipe_at]
  by_cases h : i ∈ vs
  · rw [if_pos h, if_pos h]
    cases σ[i]? <;> rfl
  · rw [if_neg h, if_neg h]
theorem wipeD_length (ρ : DSt) : ∀ vs, (wipeD ρ vs).length = ρ.length
  | [] => rfl
  | v :: vs => by unfold wipeD; rw [List.length_set, wipeD_length ρ vs]
theorem Rel.wipe {B : Bx} {σ : L2.St} {H F R : Hp} {ρ : DSt} {G : DHp} {m : List Addr} (I : Rel B σ H ρ G F R m) (vs : List Nat) : Rel B (wipe σ vs) H (wipeD ρ vs) G F R m :=
  ⟨I.toHRel, by rw [wipeD_length, wipe_length]; exact I.slen, fun i d h => by
    rw [wipeD_at] at h
    by_cases hv : i ∈ vs
    · rw [if_pos hv] at h
      cases e : ρ[i]? <;> rw [e] at h <;> cases h
    · rw [if_neg hv] at h
      obtain ⟨v, e, r⟩ := I.slot i d h
      exact ⟨v, by rw [wipe_at, if_neg hv]; exact e, r⟩⟩

/-! ### comprehensions -/
def dYes : DTT := fun _ G Q => Q true G
@[irreducible] def lcR (items : List D) (bd : Bool) (live : DHp → Prop) (t : Tg) (vs : List Nat) (tt : DTT) (te : DTE) (ρ : DSt) (G1 : DHp) (Q : List D → DHp → Prop) : Prop := (bd = true ∨ items.length ≤ sizeLine) ∧ ∃ W : Nat → List D → DHp → Prop, W 0 [] G1 ∧
  (∀ i acc G, i ≤ items.length → W i acc G → live G) ∧
  (∀ i x acc G, items[i]? = some x → W i acc G → t.st x (wipeD ρ vs) fun ρ1 => tt ρ1 G fun b G2 => br b (te ρ1 G2 fun y G3 => W (i + 1) (acc ++ [y]) G3) (W (i + 1) acc G2)) ∧
  ∀ acc G, W items.length acc G → Q acc G
def dLc (ti : DTI) (t : Tg) (vs : List Nat) (tt : DTT) (te : DTE) : DTA := fun ρ G Q => ti ρ G fun items bd live G1 => lcR items bd live t vs tt te ρ G1 Q
theorem frz_le {B : Bx} {tn : DTA} {σ : L2.St} {H : Hp} {Q : VK} (h : liftE B (dFrz tn) σ H Q) : liftN B tn σ H Q := by
  obtain ⟨ρ, G, F, R, m, QD, I, t, post⟩ := h
  exact ⟨ρ, G, F, R, m, _, I, t, fun ds G1 a vs H1 F1 m1 J s p h1 hF hR hm l z q =>
    post (.fl ds) G1 (.ref a) H1 _ m1 (J.toF h1 hF hR hm) (s.trans (same_upd hF)) p (.fl upd_same (l.mono (same_upd hF) (List.prefix_refl _)) z) q⟩
theorem own_le {B : Bx} {tn : DTA} {σ : L2.St} {H : Hp} {Q : VK} (h : liftE B (dOwn tn) σ H Q) : liftN B tn σ H Q := by
  obtain ⟨ρ, G, F, R, m, QD, I, t, post⟩ := h
  exact ⟨ρ, G, F, R, m, _, I, t, fun ds G1 a vs H1 F1 m1 J s p h1 hF hR hm l z q =>
    post (.ref G1.length) (G1 ++ [.lst ds]) (.ref a) H1 F1 (m1 ++ [a]) (J.toM (o := .lst ds) ⟨vs, h1, l.mono (Same.refl _) (List.prefix_append _ _), z⟩ hF hR hm) s (prefix_trans p (List.prefix_append _ _))
      (.ref (by rw [← J.len, List.getElem?_append_right (Nat.le_refl _), Nat.sub_self]; rfl)) q⟩
theorem lc_le {B : Bx} {ti : DTI} {t : Tg} {vs : List Nat} {tt : DTT} {te : DTE} (ho : t.own vs = true) {σ : L2.St} {H : Hp} {Q : VK} (h : liftN B (dLc ti t vs tt te) σ H Q) : tLc (liftI B ti) (t.v B.K) (liftT B tt) (liftE B te) vs σ H Q := by
  obtain ⟨ρ, G, F, R, m, QD, I, h, post⟩ := h
  refine ⟨ρ, G, F, R, m, _, I, h, fun items bd live G1 J H1 F1 m1 I1 s1 p1 it hb q => ?_⟩
  unfold lcR at q
  obtain ⟨hsz, W, w0, wl, ws, wd⟩ := q
  have hlen : items.length ≤ sizeLine := hsz.elim hb id
  intro N hN
  have hRN : R N = none := I1.noR hN
  refine ⟨fun i n H' => n = items.length - i ∧ i ≤ items.length ∧ ∃ acc us G' F' m', HRel B H' G' F' (upd R N (.lst us)) m' ∧ Same F1 F' ∧ m1 <+: m' ∧ RepL B.K F' m' acc us ∧ acc.length ≤ i ∧ W i acc G',
    ⟨items.length, by simp, Nat.zero_le _, [], [], G1, F1, m1, I1.prv hN _, Same.refl _, List.prefix_refl _, .nil, Nat.le_refl _, w0⟩, ?_⟩
  rintro i n H' ⟨rfl, hi, acc, us, G', F', m', I', s', p', l', hl', w'⟩
  have lv := wl i acc G' hi w'
  obtain ⟨hstop, hgo⟩ := it i H' G' F' _ m' I' s' p' lv
  by_cases hlt : i < items.length
  · obtain ⟨hg, hy⟩ := hgo items[i] (List.getElem?_eq_getElem hlt)
    refine .inr ⟨hg, fun H'' => ∃ acc us G' F' m', HRel B H'' G' F' (upd R N (.lst us)) m' ∧ Same F1 F' ∧ m1 <+: m' ∧ RepL B.K F' m' acc us ∧ acc.length ≤ i + 1 ∧ W (i + 1) acc G', fun H'' hx => ⟨_, by omega, rfl, hlt, hx⟩, fun v H2 y => ?_⟩
    obtain ⟨F2, I2, s2, r2⟩ := hy v H2 y
    have s12 : Same F F2 := (s1.trans s').trans s2
    have p12 : m <+: m' := prefix_trans p1 p'
    have IR : Rel B σ H2 ρ G' F2 _ m' := ⟨I2, I.slen, fun i d e => let ⟨v, e1, r⟩ := I.slot i d e; ⟨v, e1, r.mono s12 p12⟩⟩
    refine Tg.ok t (IR.wipe vs) r2 (ws i items[i] acc G' (List.getElem?_eq_getElem hlt) w') fun ρ3 σ3 I3 wp h3 => ⟨by rw [wp vs ho, wipe_wipe], ?_⟩
    have l2 : RepL B.K F2 m' acc us := l'.mono s2 (List.prefix_refl _)
    refine ⟨ρ3, G', F2, _, m', _, I3, h3, fun b G4 H4 F4 m4 I4 s4 p4 h4 => ?_⟩
    cases b with
    | false => exact ⟨acc, us, G4, F4, m4, I4, (s'.trans s2).trans s4, prefix_trans p' p4, l2.mono s4 p4, by omega, br_f.mp h4⟩
    | true =>
      rw [if_pos rfl]
      have h4 := br_t.mp h4
      refine ⟨ρ3, G4, F4, _, m4, _, I3.of I4 s4 p4, h4, fun d G5 w H5 F5 m5 I5 s5 p5 r5 h5 => ?_⟩
      have e5 := I5.subR N _ upd_same
      have l5 : RepL B.K F5 m5 acc us := (l2.mono s4 p4).mono s5 p5
      refine ⟨us, e5, by rw [← l5.length]; omega, acc ++ [d], us ++ [w], G5, F5, m5, ?_, ((s'.trans s2).trans s4).trans s5, prefix_trans (prefix_trans p' p4) p5, l5.append (.cons r5 .nil), by rw [List.length_append]; show acc.length + 1 ≤ i + 1; omega, h5⟩
      have J := I5.prvSet (o' := .lst (us ++ [w])) (upd_same (H := R) (a := N) (o := .lst us))
      rwa [upd_upd] at J
  · have e : i = items.length := by omega
    subst e
    refine .inl ⟨hstop (Nat.le_refl _), ?_⟩
    have eN := I'.subR N _ upd_same
    exact post acc G' N us H' F' m' (I'.prvDrop (same_upd hRN)) (s1.trans s') (prefix_trans p1 p') eN (I'.apart N _ upd_same) hRN (fun hm => by have := (I'.free N hm).2; rw [upd_same] at this; cases this) l' (by omega) (wd acc G' w')

/-! ### statements -/
@[irreducible] def forR (items : List D) (live : DHp → Prop) (t : Tg) (tb : DTS) (D : DEnds) (ρ : DSt) (G1 : DHp) : Prop := ∃ W : Nat → DSt → DHp → Prop, W 0 ρ G1 ∧ (∀ i ρ G, i ≤ items.length → W i ρ G → live G) ∧
  (∀ i x ρ G, items[i]? = some x → W i ρ G → t.st x ρ fun ρ1 => tb ⟨W (i + 1), D.rt, D.nx, W (i + 1)⟩ ρ1 G) ∧ ∀ ρ G, W items.length ρ G → D.nx ρ G
def dFor (ti : DTI) (t : Tg) (tb : DTS) : DTS := fun D ρ G => ti ρ G fun items bd live G1 => forR items live t tb D ρ G1
@[irreducible] def whileR (c : DTT) (tb : DTS) (D : DEnds) (ρ : DSt) (G : DHp) : Prop := ∃ W : Nat → DSt → DHp → Prop, (∃ n, W n ρ G) ∧ ∀ n ρ G, W n ρ G →
  c ρ G fun b G1 => br b (tb ⟨fun ρ' G' => ∃ k, k < n ∧ W k ρ' G', D.rt, D.nx, fun ρ' G' => ∃ k, k < n ∧ W k ρ' G'⟩ ρ G1) (D.nx ρ G1)
def dWhile (c : DTT) (tb : DTS) : DTS := fun D ρ G => whileR c tb D ρ G
def dNext : DTS := fun D ρ G => D.nx ρ G
def dSeqS (t u : DTS) : DTS := fun D ρ G => match D with
  | ⟨nx, rt, bk, ct⟩ => t ⟨u ⟨nx, rt, bk, ct⟩, rt, bk, ct⟩ ρ G
def dBreak : DTS := fun D ρ G => D.bk ρ G
def dCont : DTS := fun D ρ G => D.ct ρ G
def dDrop (te : DTE) : DTS := fun D ρ G => te ρ G fun _ G1 => D.nx ρ G1
def dRet (te : DTE) : DTS := fun D ρ G => te ρ G D.rt
def dRetN : DTS := fun D _ G => D.rt .non G
def dIf (c : DTT) (t u : DTS) : DTS := fun D ρ G => c ρ G fun b G1 => br b (t D ρ G1) (u D ρ G1)
def dAsg (te : DTE) (t : Tg) : DTS := fun D ρ G => te ρ G fun d G1 => t.st d ρ fun ρ1 => D.nx ρ1 G1
def dPar (i j : Nat) (ta tb : DTE) : DTS := fun D ρ G => ta ρ G fun d G1 => tb ρ G1 fun e G2 => D.nx ((ρ.set i (some d)).set j (some e)) G2
/-- o[i] = e, o a list of ours -/
def dSetIx (te to ti : DTE) : DTS := fun D ρ G => te ρ G fun d G1 => to ρ G1 fun o G2 => ti ρ G2 fun i G3 => match o, i with
  | .ref r, .int k => ∃ xs j, G3[r]? = some (.lst xs) ∧ ixN xs.length k = some j ∧ D.nx ρ (G3.set r (.lst (xs.set j d)))
  | _, _ => False
section
variable {X : Cx} {B : Bx} {st : Stmt} {rest body : List Stmt} {tS uS tb : DTS} {e iter tg c : Expr} {te : DTE} {ti : DTI} {tc : DTT} {pos : Pos}
theorem dss_nil : PSs X [] (liftS B dNext) := PSs.imp pss_nil fun D σ H ⟨ρ, G, F, R, m, DD, I, t, post⟩ => post.nx ρ G σ H F m I (Same.refl _) (List.prefix_refl _) t
theorem ds_pass : PS X (.Pass pos) (liftS B dNext) := PS.imp ps_pass fun D σ H ⟨ρ, G, F, R, m, DD, I, t, post⟩ => post.nx ρ G σ H F m I (Same.refl _) (List.prefix_refl _) t
theorem ds_break : PS X (.Break pos) (liftS B dBreak) := PS.imp ps_break fun D σ H ⟨ρ, G, F, R, m, DD, I, t, post⟩ => post.bk ρ G σ H F m I (Same.refl _) (List.prefix_refl _) t
theorem ds_cont : PS X (.Continue pos) (liftS B dCont) := PS.imp ps_continue fun D σ H ⟨ρ, G, F, R, m, DD, I, t, post⟩ => post.ct ρ G σ H F m I (Same.refl _) (List.prefix_refl _) t
theorem dss_cons (h : PS X st (liftS B tS)) (h2 : PSs X rest (liftS B uS)) : PSs X (st :: rest) (liftS B (dSeqS tS uS)) :=
  PSs.imp (pss_cons h h2) fun D σ H ⟨ρ, G, F, R, m, DD, I, t, post⟩ => ⟨ρ, G, F, R, m, _, I, t,
    ⟨fun ρ' G' σ' H' F' m' J s p q => ⟨ρ', G', F', R, m', DD, J, q, post.next s p⟩, post.rt, post.bk, post.ct⟩⟩
theorem ds_expr (h : PE X e (liftE B te)) (hs : swapsWith e none pos.line X.env = pure false) : PS X (.Expr e pos) (liftS B (dDrop te)) :=
  PS.imp (ps_expr h hs) fun D σ H ⟨ρ, G, F, R, m, DD, I, t, post⟩ => ⟨ρ, G, F, R, m, _, I, t, fun d G1 v H1 F1 m1 J s p r q => post.nx ρ G1 σ H1 F1 m1 (I.of J s p) s p q⟩
theorem ds_ret (h : PE X e (liftE B te)) : PS X (.Return (some e) pos) (liftS B (dRet te)) :=
  PS.imp (ps_ret h) fun D σ H ⟨ρ, G, F, R, m, DD, I, t, post⟩ => ⟨ρ, G, F, R, m, _, I, t, fun d G1 v H1 F1 m1 J s p r q => post.rt d G1 v H1 F1 m1 J s p r q⟩
theorem ds_retN : PS X (.Return none pos) (liftS B dRetN) :=
  PS.imp ps_retN fun D σ H ⟨ρ, G, F, R, m, DD, I, t, post⟩ => post.rt .non G .non H F m I.toHRel (Same.refl _) (List.prefix_refl _) .non t
theorem ds_if {a b : List Stmt} (hc : PT X c (liftT B tc)) (ha : PSs X a (liftS B tS)) (hb : PSs X b (liftS B uS)) : PS X (.If c a b pos) (liftS B (dIf tc tS uS)) :=
  PS.imp (ps_if hc ha hb) fun D σ H ⟨ρ, G, F, R, m, DD, I, t, post⟩ => ⟨ρ, G, F, R, m, _, I, t, fun k G1 H1 F1 m1 J s p q => by
    cases k with
    | true => exact ⟨ρ, G1, F1, R, m1, DD, I.of J s p, br_t.mp q, post.next s p⟩
    | false => exact ⟨ρ, G1, F1, R, m1, DD, I.of J s p, br_f.mp q, post.next s p⟩⟩
/-- a value is stored into a target -/
theorem asg_le {t : Tg} {D : Ends} {σ : L2.St} {H : Hp} (h : liftS B (dAsg te t) D σ H) : tAsg (liftE B te) (t.v B.K) D σ H := by
  obtain ⟨ρ, G, F, R, m, DD, I, h, post⟩ := h
  exact ⟨ρ, G, F, R, m, _, I, h, fun d G1 v H1 F1 m1 J s p r q => Tg.ok t (I.of J s p) r q fun ρ' σ' J' _ k => post.nx ρ' G1 σ' H1 F1 m1 J' s p k⟩
theorem ds_asg {t : Tg} (h : PE X e (liftE B te)) (hg : PG X tg (t.v B.K)) (hs : swapsWithSole [tg] e pos.line X.env = pure false) (hw : swappedStores [tg] e X.env = pure none) (h1 : (assignEach [tg] X.env).map (·.2) = [assign tg X.env]) : PS X (.Assign [tg] e pos) (liftS B (dAsg te t)) :=
  PS.imp (ps_asg h hg hs hw h1) fun D σ H q => asg_le q
theorem ds_par {i j : Nat} {x y : Str} {a b : Expr} {ta tb : DTE} {px py pt : Pos} {kt k2 pt2} (hc : X.calm = true) (hN : X.N.Nodup) (hi : X.N[i]? = some x) (hj : X.N[j]? = some y) (hij : i ≠ j)
    (hx : X.env.scope.names.lookup x = some .local) (hy : X.env.scope.names.lookup y = some .local) (ha : PE X a (liftE B ta)) (hb : PE X b (liftE B tb)) (ea : starEach [a, b] X.env = (false, eval a X.env) :: starEach [b] X.env) (eb : starEach [b] X.env = (false, eval b X.env) :: starEach [] X.env)
    (hw : swappedStores [.Tuple [.Name x px, .Name y py] kt pt] (.Tuple [a, b] k2 pt2) X.env = pure (some [x, y]))
    (hs : swapsWithSole [.Tuple [.Name x px, .Name y py] kt pt] (.Tuple [a, b] k2 pt2) pos.line X.env = pure false) : PS X (.Assign [.Tuple [.Name x px, .Name y py] kt pt] (.Tuple [a, b] k2 pt2) pos) (liftS B (dPar i j ta tb)) := by
  have hp : PA X [a, b] (tCons (liftE B ta) (tCons (liftE B tb) tNil)) := pa_cons ha (pa_cons hb pa_nil eb) ea
  refine PS.imp (ps_par hc hN hi hj hij hx hy hp hw hs) fun D σ H ⟨ρ, G, F, R, m, DD, I, t, post⟩ => ?_
  refine bin_ok (rr := fun v w H1 => ∃ v' w', [v, w] = [v', w'] ∧ D.nx ((σ.set i (some v')).set j (some w')) H1) I t fun x y v u G' H' F' m' J s p rx ry q => ?_
  exact ⟨v, u, rfl, post.nx _ G' _ H' F' m' (((I.of J s p).put rx i).put ry j) s p q⟩
theorem ds_setIx {o i : Expr} {to ti : DTE} {tpos : Pos} (h : PE X e (liftE B te)) (ho : PE X o (liftE B to)) (hi : PE X i (liftE B ti))
    (ha : ∀ v, assign (.Subscript o i tpos) X.env v = (do
      let ov ← holding [v] (eval o X.env)
      let iv ← holding [v, ov] (eval i X.env)
      standAt tpos
      holding [v, ov, iv] (setItem ov iv v)
      release [v, ov, iv] []))
    (hs : swapsWithSole [.Subscript o i tpos] e pos.line X.env = pure false) (hw : swappedStores [.Subscript o i tpos] e X.env = pure none) (h1 : (assignEach [.Subscript o i tpos] X.env).map (·.2) = [assign (.Subscript o i tpos) X.env]) :
    PS X (.Assign [.Subscript o i tpos] e pos) (liftS B (dSetIx te to ti)) := by
  refine PS.imp (ps_asg h (pg_sub ho hi set_list ha) hs hw h1) fun D σ H ⟨ρ, G, F, R, m, DD, I, t, post⟩ => ?_
  refine ⟨ρ, G, F, R, m, _, I, t, fun d G1 v H1 F1 m1 J s p r q => ?_⟩
  refine bin_ok (rr := fun x y H2 => rSetL x y v H2 fun H3 => D.nx σ H3) (I.of J s p) q fun x y u w G' H' F' m' J2 s2 p2 rx ry q => ?_
  cases x with
  | ref a =>
    cases y with
    | int k =>
      cases ry.isInt
      obtain ⟨xs, j, e1, e2, q⟩ := q
      obtain ⟨b, us, rfl, hm, hH, l, z⟩ := J2.own rx e1
      have K := J2.wr hm (l.set (r.mono s2 p2) j) (by rw [List.length_set]; exact z)
      exact ⟨b, us, k, j, rfl, rfl, hH, by rw [← l.length]; exact e2, post.nx ρ _ σ _ F' m' (I.of K (s.trans s2) (prefix_trans p p2)) (s.trans s2) (prefix_trans p p2) q⟩
    | _ => exact q.elim
  | _ => exact q.elim
theorem ds_while {body : List Stmt} (hp : PassesOwn (model X.prog X.w) X.A X.env X.xe) (hc : PT X c (liftT B tc)) (hb : PSs X body (liftS B tb)) : PS X (.While c body [] pos) (liftS B (dWhile tc tb)) := by
  refine PS.imp (ps_while hp hc hb) fun D σ H ⟨ρ, G, F, R, m, DD, I, t, post⟩ => ?_
  have t : whileR tc tb DD ρ G := t
  unfold whileR at t
  obtain ⟨W, ⟨n0, w0⟩, ws⟩ := t
  refine ⟨fun n σ' H' => ∃ ρ' G' F' m', Rel B σ' H' ρ' G' F' R m' ∧ Same F F' ∧ m <+: m' ∧ W n ρ' G', ⟨n0, ρ, G, F, m, I, Same.refl _, List.prefix_refl _, w0⟩, ?_⟩
  rintro n σ1 H1 ⟨ρ1, G1, F1, m1, I1, s1, p1, w1⟩
  refine ⟨ρ1, G1, F1, R, m1, _, I1, ws n ρ1 G1 w1, fun b G2 H2 F2 m2 I2 s2 p2 q => ?_⟩
  cases b with
  | false => exact post.nx ρ1 G2 σ1 H2 F2 m2 (I1.of I2 s2 p2) (s1.trans s2) (prefix_trans p1 p2) (br_f.mp q)
  | true =>
    refine ⟨fun σ' H' => ∃ k, k < n ∧ ∃ ρ' G' F' m', Rel B σ' H' ρ' G' F' R m' ∧ Same F F' ∧ m <+: m' ∧ W k ρ' G', fun _ _ h => h, ρ1, G2, F2, R, m2, _, I1.of I2 s2 p2, br_t.mp q, ?_⟩
    have step : ∀ ρ' G' σ' H' F' m', Rel B σ' H' ρ' G' F' R m' → Same F2 F' → m2 <+: m' → (∃ k, k < n ∧ W k ρ' G') → ∃ k, k < n ∧ ∃ ρ' G' F' m', Rel B σ' H' ρ' G' F' R m' ∧ Same F F' ∧ m <+: m' ∧ W k ρ' G' :=
      fun ρ' G' σ' H' F' m' J s p ⟨k, hk, w⟩ => ⟨k, hk, ρ', G', F', m', J, (s1.trans s2).trans s, prefix_trans (prefix_trans p1 p2) p, w⟩
    have post2 := (post.next s1 p1).next s2 p2
    exact ⟨step, post2.rt, post2.nx, step⟩
theorem ds_for {body : List Stmt} {t : Tg} (hp : PassesOwn (model X.prog X.w) X.A X.env X.xe) (hc : X.calm = true) (hi : PI X tg iter (liftI B ti)) (hg : PG X tg (t.v B.K)) (hb : PSs X body (liftS B tb)) (hs : ∀ x, foldedSetIterable iter X.env x = pure x) :
    PS X (.For tg iter body [] pos) (liftS B (dFor ti t tb)) := by
  refine PS.imp (ps_for hp hc hi hg hb hs) fun D σ H ⟨ρ, G, F, R, m, DD, I, h, post⟩ => ?_
  refine ⟨ρ, G, F, R, m, _, I, h, fun items bd live G1 J H1 F1 m1 I1 s1 p1 it hb q => ?_⟩
  unfold forR at q
  obtain ⟨W, w0, wl, ws, wd⟩ := q
  refine ⟨fun i n σ' H' => n = items.length - i ∧ i ≤ items.length ∧ ∃ ρ' G' F' m', Rel B σ' H' ρ' G' F' R m' ∧ Same F1 F' ∧ m1 <+: m' ∧ W i ρ' G', ⟨items.length, by simp, Nat.zero_le _, ρ, G1, F1, m1, I.of I1 s1 p1, Same.refl _, List.prefix_refl _, w0⟩, ?_⟩
  rintro i n σ' H' ⟨rfl, hi, ρ', G', F', m', I', s', p', w'⟩
  obtain ⟨hstop, hgo⟩ := it i H' G' F' R m' I'.toHRel s' p' (wl i ρ' G' hi w')
  by_cases hlt : i < items.length
  · obtain ⟨hg, hy⟩ := hgo items[i] (List.getElem?_eq_getElem hlt)
    refine .inr ⟨hg, fun σ2 H2 => ∃ ρ' G' F' m', Rel B σ2 H2 ρ' G' F' R m' ∧ Same F1 F' ∧ m1 <+: m' ∧ W (i + 1) ρ' G', fun σ2 H2 hx => ⟨_, by omega, rfl, hlt, hx⟩, fun v H2 y => ?_⟩
    obtain ⟨F2, I2, s2, r2⟩ := hy v H2 y
    refine Tg.ok t (I'.of I2 s2 (List.prefix_refl _)) r2 (ws i items[i] ρ' G' (List.getElem?_eq_getElem hlt) w') fun ρ3 σ3 I3 _ h3 => ?_
    refine ⟨ρ3, G', F2, R, m', _, I3, h3, ?_⟩
    have step : ∀ ρ4 G4 σ4 H4 F4 m4, Rel B σ4 H4 ρ4 G4 F4 R m4 → Same F2 F4 → m' <+: m4 → W (i + 1) ρ4 G4 → ∃ ρ' G' F' m', Rel B σ4 H4 ρ' G' F' R m' ∧ Same F1 F' ∧ m1 <+: m' ∧ W (i + 1) ρ' G' :=
      fun ρ4 G4 σ4 H4 F4 m4 J4 s4 p4 w => ⟨ρ4, G4, F4, m4, J4, (s'.trans s2).trans s4, prefix_trans p' p4, w⟩
    have post2 := (post.next s1 p1).next (s'.trans s2) p'
    exact ⟨step, post2.rt, post2.nx, step⟩
  · have e : i = items.length := by omega
    subst e
    exact .inl ⟨hstop (Nat.le_refl _), post.nx ρ' G' σ' H' F' m' I' (s1.trans s') (prefix_trans p1 p') (wd ρ' G' w')⟩
end
end DL

/-! DLh: comprehensions as rules, calls of defs, defs. -/
namespace DL
open PySem PySem.Spec PyProof.Rows L2

section
variable {X : Cx} {B : Bx} {elt tg iter : Expr} {ifs : List Expr} {scope : Scope} {own : List (Str × Nat)} {pos spos : Pos} {ti : DTI} {t : Tg} {tt : DTT} {te : DTE}
theorem dn_lc (hK : X.K = B.K) (hc : X.calm = true) (hN : X.N.Nodup) (hi : PI X tg iter (liftI B ti)) (ok : BlkOk X.N X.env.scope scope own) (ho : t.own (own.map (·.2)) = true)
    (hg : ∀ (s : Shared) (H : Hp) (C : Addr) (cl : List (Str × Addr)) (fp : List Addr), PG (X.blk s H scope (compEnvC scope cl C X.env) fp) tg (t.v B.K)) (ht : ∀ (s : Shared) (H : Hp) (C : Addr) (cl : List (Str × Addr)) (fp : List Addr), PTs (X.blk s H scope (compEnvC scope cl C X.env) fp) ifs (liftT B tt))
    (he : ∀ (s : Shared) (H : Hp) (C : Addr) (cl : List (Str × Addr)) (fp : List Addr), PE (X.blk s H scope (compEnvC scope cl C X.env) fp) elt (liftE B te)) (hs : ∀ x, foldedSetIterable iter X.env x = pure x) :
    PE X (.ListComp elt [⟨tg, iter, ifs, 0⟩] scope pos) (liftN B (dLc ti t (own.map (·.2)) tt te)) :=
  PE.imp (pe_lc hc hN hi ok hg ht he hs) fun σ H Q q => lc_le ho q
/-- name = [..] -/
theorem ds_setLc (hK : X.K = B.K) {i : Nat} {y : Str} {py : Pos} (hc : X.calm = true) (hN : X.N.Nodup) (hy : X.N[i]? = some y) (hyl : X.env.scope.names.lookup y = some .local)
    (hsw : swapsWith (.ListComp elt [⟨tg, iter, ifs, 0⟩] scope pos) (some (.Name y py)) spos.line X.env = pure true) (hi : PI X tg iter (liftI B ti)) (ok : BlkOk X.N X.env.scope scope own) (ho : t.own (own.map (·.2)) = true)
    (hg : ∀ (s : Shared) (H : Hp) (C : Addr) (cl : List (Str × Addr)) (fp : List Addr), PG (X.blk s H scope (compEnvC scope cl C X.env) fp) tg (t.v B.K)) (ht : ∀ (s : Shared) (H : Hp) (C : Addr) (cl : List (Str × Addr)) (fp : List Addr), PTs (X.blk s H scope (compEnvC scope cl C X.env) fp) ifs (liftT B tt))
    (he : ∀ (s : Shared) (H : Hp) (C : Addr) (cl : List (Str × Addr)) (fp : List Addr), PE (X.blk s H scope (compEnvC scope cl C X.env) fp) elt (liftE B te)) (hs : ∀ x, foldedSetIterable iter X.env x = pure x)
    {tx : DTE} (hx : ∀ σ H Q, liftE B tx σ H Q → liftN B (dLc ti t (own.map (·.2)) tt te) σ H Q) :
    PS X (.Assign [.Name y py] (.ListComp elt [⟨tg, iter, ifs, 0⟩] scope pos) spos) (liftS B (dAsg tx (.nm i))) :=
  PS.imp (ps_setLc hc hN hy hyl hsw hi ok hg ht he hs) fun D σ H q => lc_le ho (hx _ _ _ (asg_le q))
theorem dts_nil : PTs X [] (liftT B dYes) := ⟨fun pins s σ H Q I ⟨ρ, G, F, R, m, QD, J, h, post⟩ => pts_nil.run pins s σ H Q I (post true G H F m J.toHRel (Same.refl _) (List.prefix_refl _) h)⟩
theorem dts_one {c : Expr} (h : PT X c (liftT B tt)) : PTs X [c] (liftT B tt) := pts_one h
end

/-! ### names of a callee's objects, ours -/
mutual
def ren (is : List Nat) : D → Option D
  | .ref j => (is[j]?).map D.ref
  | .tup xs => (renL is xs).map D.tup
  | .fl xs => (renL is xs).map D.fl
  | .sl xs => (renL is xs).map D.sl
  | .non => some .non
  | .bl b => some (.bl b)
  | .int i => some (.int i)
  | .str x => some (.str x)
  | .ty n => some (.ty n)
  | .fd => some .fd
  | .tw _ => none
def renL (is : List Nat) : List D → Option (List D)
  | [] => some []
  | d :: ds => match ren is d, renL is ds with
    | some e, some es => some (e :: es)
    | _, _ => none
end
def renF (is : List Nat) : List (Str × D) → Option (List (Str × D))
  | [] => some []
  | (f, d) :: r => match ren is d, renF is r with
    | some e, some es => some ((f, e) :: es)
    | _, _ => none
def renO (is : List Nat) : DO → Option DO
  | .lst xs => (renL is xs).map DO.lst
  | .ins c fs => (renF is fs).map (DO.ins c)
theorem renL_length {is : List Nat} : ∀ {ds es : List D}, renL is ds = some es → es.length = ds.length
  | [], es, h => by cases h; rfl
  | d :: ds, es, h => by
    unfold renL at h
    cases e1 : ren is d with
    | none => rw [e1] at h; cases h
    | some x =>
      cases e2 : renL is ds with
      | none => rw [e1, e2] at h; cases h
      | some xs => rw [e1, e2] at h; cases h; rw [List.length_cons, List.length_cons, renL_length e2]
section
variable {K : PySem.W.Frag} {F : Hp} {m n : List Addr} {is : List Nat}
mutual
/-- from us to the callee: n's names are is of m's -/
theorem ren_in (hn : ∀ j i : Nat, is[j]? = some i → ∀ a, m[i]? = some a → n[j]? = some a) : ∀ {d e : D} {v : V}, ren is d = some e → Rep K F m e v → Rep K F n d v
  | .ref j, e, v, h, r => by
    cases hj : is[j]? with
    | none => rw [ren, hj] at h; cases h
    | some i =>
      rw [ren, hj] at h
      cases h
      cases r with | ref q => exact .ref (hn j i hj _ q)
  | .tup xs, e, v, h, r => by
    cases hx : renL is xs with
    | none => rw [ren, hx] at h; cases h
    | some es =>
      rw [ren, hx] at h
      cases h
      cases r with | tup h1 h2 z => exact .tup h1 (renL_in hn hx h2) (by rw [← renL_length hx]; exact z)
  | .fl xs, e, v, h, r => by
    cases hx : renL is xs with
    | none => rw [ren, hx] at h; cases h
    | some es =>
      rw [ren, hx] at h
      cases h
      cases r with | fl h1 h2 z => exact .fl h1 (renL_in hn hx h2) (by rw [← renL_length hx]; exact z)
  | .sl xs, e, v, h, r => by
    cases hx : renL is xs with
    | none => rw [ren, hx] at h; cases h
    | some es =>
      rw [ren, hx] at h
      cases h
      cases r with | sl h1 h2 z => exact .sl h1 (renL_in hn hx h2) (by rw [← renL_length hx]; exact z)
  | .non, e, v, h, r => by cases h; cases r; exact .non
  | .bl b, e, v, h, r => by cases h; cases r; exact .bl b
  | .int i, e, v, h, r => by cases h; cases r; exact .int i
  | .str x, e, v, h, r => by cases h; cases r; exact .str x
  | .ty x, e, v, h, r => by cases h; cases r; exact .ty x
  | .fd, e, v, h, r => by cases h; cases r with | fd q => exact .fd q
  | .tw _, e, v, h, r => by cases h
theorem renL_in (hn : ∀ j i : Nat, is[j]? = some i → ∀ a, m[i]? = some a → n[j]? = some a) : ∀ {ds es : List D} {vs : List V}, renL is ds = some es → RepL K F m es vs → RepL K F n ds vs
  | [], es, vs, h, r => by cases h; cases r; exact .nil
  | d :: ds, es, vs, h, r => by
    unfold renL at h
    cases e1 : ren is d with
    | none => rw [e1] at h; cases h
    | some x =>
      cases e2 : renL is ds with
      | none => rw [e1, e2] at h; cases h
      | some xs =>
        rw [e1, e2] at h
        cases h
        cases r with | cons r1 r2 => exact .cons (ren_in hn e1 r1) (renL_in hn e2 r2)
end
mutual
/-- .. and back -/
theorem ren_out (hn : ∀ j i : Nat, is[j]? = some i → ∀ a, n[j]? = some a → m[i]? = some a) : ∀ {d e : D} {v : V}, ren is d = some e → Rep K F n d v → Rep K F m e v
  | .ref j, e, v, h, r => by
    cases hj : is[j]? with
    | none => rw [ren, hj] at h; cases h
    | some i =>
      rw [ren, hj] at h
      cases h
      cases r with | ref q => exact .ref (hn j i hj _ q)
  | .tup xs, e, v, h, r => by
    cases hx : renL is xs with
    | none => rw [ren, hx] at h; cases h
    | some es =>
      rw [ren, hx] at h
      cases h
      cases r with | tup h1 h2 z => exact .tup h1 (renL_out hn hx h2) (by rw [renL_length hx]; exact z)
  | .fl xs, e, v, h, r => by
    cases hx : renL is xs with
    | none => rw [ren, hx] at h; cases h
    | some es =>
      rw [ren, hx] at h
      cases h
      cases r with | fl h1 h2 z => exact .fl h1 (renL_out hn hx h2) (by rw [renL_length hx]; exact z)
  | .sl xs, e, v, h, r => by
    cases hx : renL is xs with
    | none => rw [ren, hx] at h; cases h
    | some es =>
      rw [ren, hx] at h
      cases h
      cases r with | sl h1 h2 z => exact .sl h1 (renL_out hn hx h2) (by rw [renL_length hx]; exact z)
  | .non, e, v, h, r => by cases h; cases r; exact .non
  | .bl b, e, v, h, r => by cases h; cases r; exact .bl b
  | .int i, e, v, h, r => by cases h; cases r; exact .int i
  | .str x, e, v, h, r => by cases h; cases r; exact .str x
  | .ty x, e, v, h, r => by cases h; cases r; exact .ty x
  | .fd, e, v, h, r => by cases h; cases r with | fd q => exact .fd q
  | .tw _, e, v, h, r => by cases h
theorem renL_out (hn : ∀ j i : Nat, is[j]? = some i → ∀ a, n[j]? = some a → m[i]? = some a) : ∀ {ds es : List D} {vs : List V}, renL is ds = some es → RepL K F n ds vs → RepL K F m es vs
  | [], es, vs, h, r => by cases h; cases r; exact .nil
  | d :: ds, es, vs, h, r => by
    unfold renL at h
    cases e1 : ren is d with
    | none => rw [e1] at h; cases h
    | some x =>
      cases e2 : renL is ds with
      | none => rw [e1, e2] at h; cases h
      | some xs =>
        rw [e1, e2] at h
        cases h
        cases r with | cons r1 r2 => exact .cons (ren_out hn e1 r1) (renL_out hn e2 r2)
end
theorem renF_in (hn : ∀ j i : Nat, is[j]? = some i → ∀ a, m[i]? = some a → n[j]? = some a) : ∀ {ds es : List (Str × D)} {vs : List (Str × V)}, renF is ds = some es → FRep K F m es vs → FRep K F n ds vs
  | [], es, vs, h, r => by
    cases h
    cases vs with
    | nil => trivial
    | cons _ _ => exact r.elim
  | (f, d) :: ds, es, vs, h, r => by
    unfold renF at h
    cases e1 : ren is d with
    | none => rw [e1] at h; cases h
    | some x =>
      cases e2 : renF is ds with
      | none => rw [e1, e2] at h; cases h
      | some xs =>
        rw [e1, e2] at h
        cases h
        cases vs with
        | nil => exact r.elim
        | cons q qs => exact ⟨r.1, ren_in hn e1 r.2.1, renF_in hn e2 r.2.2⟩
theorem renF_out (hn : ∀ j i : Nat, is[j]? = some i → ∀ a, n[j]? = some a → m[i]? = some a) : ∀ {ds es : List (Str × D)} {vs : List (Str × V)}, renF is ds = some es → FRep K F n ds vs → FRep K F m es vs
  | [], es, vs, h, r => by
    cases h
    cases vs with
    | nil => trivial
    | cons _ _ => exact r.elim
  | (f, d) :: ds, es, vs, h, r => by
    unfold renF at h
    cases e1 : ren is d with
    | none => rw [e1] at h; cases h
    | some x =>
      cases e2 : renF is ds with
      | none => rw [e1, e2] at h; cases h
      | some xs =>
        rw [e1, e2] at h
        cases h
        cases vs with
        | nil => exact r.elim
        | cons q qs => exact ⟨r.1, ren_out hn e1 r.2.1, renF_out hn e2 r.2.2⟩
end
theorem renO_in {B : Bx} {F : Hp} {m n : List Addr} {is : List Nat} {H : Hp} {a : Addr} (hn : ∀ j i : Nat, is[j]? = some i → ∀ a, m[i]? = some a → n[j]? = some a) {o u : DO} (h : renO is o = some u) (r : ORep B F m H a u) : ORep B F n H a o := by
  cases o with
  | lst xs =>
    cases hx : renL is xs with
    | none => rw [renO, hx] at h; cases h
    | some es =>
      rw [renO, hx] at h
      cases h
      obtain ⟨vs, h1, h2, z⟩ := r
      exact ⟨vs, h1, renL_in hn hx h2, by rw [← renL_length hx]; exact z⟩
  | ins c fs =>
    cases hx : renF is fs with
    | none => rw [renO, hx] at h; cases h
    | some es =>
      rw [renO, hx] at h
      cases h
      obtain ⟨C, dx, vs, h1, h2, h3⟩ := r
      exact ⟨C, dx, vs, h1, h2, renF_in hn hx h3⟩
theorem renO_out {B : Bx} {F : Hp} {m n : List Addr} {is : List Nat} {H : Hp} {a : Addr} (hn : ∀ j i : Nat, is[j]? = some i → ∀ a, n[j]? = some a → m[i]? = some a) {o u : DO} (h : renO is o = some u) (r : ORep B F n H a o) : ORep B F m H a u := by
  cases o with
  | lst xs =>
    cases hx : renL is xs with
    | none => rw [renO, hx] at h; cases h
    | some es =>
      rw [renO, hx] at h
      cases h
      obtain ⟨vs, h1, h2, z⟩ := r
      exact ⟨vs, h1, renL_out hn hx h2, by rw [renL_length hx]; exact z⟩
  | ins c fs =>
    cases hx : renF is fs with
    | none => rw [renO, hx] at h; cases h
    | some es =>
      rw [renO, hx] at h
      cases h
      obtain ⟨C, dx, vs, h1, h2, h3⟩ := r
      exact ⟨C, dx, vs, h1, h2, renF_out hn hx h3⟩
end DL

/-! DLi: lending objects to a callee, calls, defs. -/
namespace DL
open PySem PySem.Spec PyProof.Rows L2

def lend (is : List Nat) (G : DHp) : List Nat → List DO → Prop
  | [], [] => True
  | i :: r, o :: os => (∃ u, renO is o = some u ∧ G[i]? = some u) ∧ lend is G r os
  | _, _ => False
def setAll (e : List Nat) : DHp → List Nat → List DO → Option DHp
  | G, [], _ => some G
  | G, i :: r, o :: os => match renO e o with
    | some u => setAll e (G.set i u) r os
    | none => none
  | _, _ :: _, [] => none
def renOs (e : List Nat) : List DO → Option (List DO)
  | [] => some []
  | o :: os => match renO e o, renOs e os with
    | some u, some us => some (u :: us)
    | _, _ => none
def ext (is : List Nat) (g c : Nat) : List Nat := is ++ (List.range (c - is.length)).map (· + g)
def backG (is : List Nat) (G Gc : DHp) : Option DHp := match setAll (ext is G.length Gc.length) G is Gc with
  | some G1 => match renOs (ext is G.length Gc.length) (Gc.drop is.length) with
    | some t => some (G1 ++ t)
    | none => none
  | none => none
theorem lend_len {is0 : List Nat} {G : DHp} : ∀ {is : List Nat} {os : List DO}, lend is0 G is os → is.length = os.length
  | [], [], _ => rfl
  | _ :: _, _ :: _, h => by rw [List.length_cons, List.length_cons, lend_len h.2]
  | [], _ :: _, h => h.elim
  | _ :: _, [], h => h.elim
theorem lend_at {is0 : List Nat} {G : DHp} : ∀ {is : List Nat} {os : List DO}, lend is0 G is os → ∀ (j : Nat) o, os[j]? = some o → ∃ i u, is[j]? = some i ∧ renO is0 o = some u ∧ G[i]? = some u
  | [], [], _, j, o, e => by simp at e
  | i :: r, p :: os, h, 0, o, e => by
    cases e
    obtain ⟨u, h1, h2⟩ := h.1
    exact ⟨i, u, rfl, h1, h2⟩
  | i :: r, p :: os, h, j + 1, o, e => by
    obtain ⟨k, u, h0, h1, h2⟩ := lend_at h.2 j o (by simpa using e)
    exact ⟨k, u, by simpa using h0, h1, h2⟩
  | [], _ :: _, h, _, _, _ => h.elim
  | _ :: _, [], h, _, _, _ => h.elim
theorem setAll_spec {e : List Nat} : ∀ {is : List Nat} {os : List DO} {G G1 : DHp}, setAll e G is os = some G1 → is.Nodup → (∀ i ∈ is, i < G.length) →
    G1.length = G.length ∧ (∀ i, i ∉ is → G1[i]? = G[i]?) ∧ ∀ (j i : Nat), is[j]? = some i → ∃ o u, os[j]? = some o ∧ renO e o = some u ∧ G1[i]? = some u
  | [], os, G, G1, h, _, _ => by
    have h' : some G = some G1 := by cases os <;> exact h
    cases h'
    exact ⟨rfl, fun _ _ => rfl, fun j i e => by simp at e⟩
  | k :: is, [], G, G1, h, _, _ => by cases h
  | k :: is, o :: os, G, G1, h, nd, hi => by
    unfold setAll at h
    cases e1 : renO e o with
    | none => rw [e1] at h; cases h
    | some u =>
      rw [e1] at h
      obtain ⟨nk, nd'⟩ := List.nodup_cons.mp nd
      obtain ⟨h1, h2, h3⟩ := setAll_spec h nd' (fun i hm => by rw [List.length_set]; exact hi i (List.mem_cons_of_mem _ hm))
      refine ⟨h1.trans (List.length_set ..), fun i hm => ?_, fun j i ej => ?_⟩
      · have : i ≠ k ∧ i ∉ is := by simpa using hm
        rw [h2 i this.2, List.getElem?_set_ne (Ne.symm this.1)]
      · cases j with
        | zero =>
          cases ej
          exact ⟨o, u, rfl, e1, by rw [h2 k nk, List.getElem?_set_self (hi k List.mem_cons_self)]⟩
        | succ j =>
          obtain ⟨p, w, a, b, c⟩ := h3 j i (by simpa using ej)
          exact ⟨p, w, by simpa using a, b, c⟩
theorem renOs_spec {e : List Nat} : ∀ {os us : List DO}, renOs e os = some us → us.length = os.length ∧ ∀ (j : Nat) u, us[j]? = some u → ∃ o, os[j]? = some o ∧ renO e o = some u
  | [], us, h => by cases h; exact ⟨rfl, fun j u e => by simp at e⟩
  | o :: os, us, h => by
    unfold renOs at h
    cases e1 : renO e o with
    | none => rw [e1] at h; cases h
    | some u =>
      cases e2 : renOs e os with
      | none => rw [e1, e2] at h; cases h
      | some ws =>
        rw [e1, e2] at h
        cases h
        obtain ⟨h1, h2⟩ := renOs_spec e2
        refine ⟨by rw [List.length_cons, List.length_cons, h1], fun j w ej => ?_⟩
        cases j with
        | zero => cases ej; exact ⟨o, rfl, e1⟩
        | succ j =>
          obtain ⟨p, a, b⟩ := h2 j w (by simpa using ej)
          exact ⟨p, by simpa using a, b⟩

/-- no floor -/
abbrev B0 (K : PySem.W.Frag) (mg : Str → Option Value) : Bx := ⟨K, mg, fun _ _ => True, fun _ _ _ _ _ _ _ => trivial⟩
/-- a def's promise at the data level, lifted -/
def liftSp (K : PySem.W.Frag) (mg : Str → Option Value) (sp : DSp) : Sp := fun vs H Q _ => ∃ ds G F R m QD, HRel (B0 K mg) H G F R m ∧ RepL K F m ds vs ∧ sp ds G QD ∧ PostV (B0 K mg) F R m QD Q
/-- what a call asks and gives, in the caller's heap -/
@[irreducible] def dCallR (sp : DSp) (ds : List D) (G : DHp) (Q : DK) : Prop := ∃ is Gc dsc, is.Nodup ∧ lend is G is Gc ∧ renL is dsc = some ds ∧
  sp dsc Gc fun d Gc' => is.length ≤ Gc'.length ∧ ∃ d' G', ren (ext is G.length Gc'.length) d = some d' ∧ backG is G Gc' = some G' ∧ Q d' G'
def dCall (sp : DSp) (t : DTA) : DTE := fun ρ G Q => t ρ G fun ds G1 => dCallR sp ds G1 Q

theorem lent {B : Bx} {H : Hp} {G Gc : DHp} {F R : Hp} {m : List Addr} (I : HRel B H G F R m) {is : List Nat} (nd : is.Nodup) (hl : lend is G is Gc) :
    ∃ Rc n, HRel (B0 B.K B.mg) H Gc F Rc n ∧ (∀ j i : Nat, is[j]? = some i → ∀ a, m[i]? = some a → n[j]? = some a) ∧
      ∀ H' Gc' F' n' G', HRel (B0 B.K B.mg) H' Gc' F' Rc n' → Same F F' → n <+: n' → is.length ≤ Gc'.length → backG is G Gc' = some G' →
        ∃ m', HRel B H' G' F' R m' ∧ m <+: m' ∧ ∀ j i : Nat, (ext is G.length Gc'.length)[j]? = some i → ∀ a, n'[j]? = some a → m'[i]? = some a := by
  have hlen := lend_len hl
  have inr : ∀ i ∈ is, i < m.length := fun i hi => by
    obtain ⟨j, hj⟩ := List.mem_iff_getElem?.mp hi
    have hj' : j < Gc.length := by rw [← hlen]; exact (List.getElem?_eq_some_iff.mp hj).1
    obtain ⟨k, u, e1, _, e2⟩ := lend_at hl j _ (List.getElem?_eq_getElem hj')
    rw [hj] at e1; cases e1
    rw [I.len]; exact (List.getElem?_eq_some_iff.mp e2).1
  have n_at : ∀ j i : Nat, is[j]? = some i → (is.map fun i => m.getD i 0)[j]? = m[i]? := fun j i e => by
    rw [List.getElem?_map, e]
    show some (m.getD i 0) = _
    rw [List.getD_eq_getElem?_getD, List.getElem?_eq_getElem (inr i (List.mem_of_getElem? e))]
    rfl
  generalize hn : (is.map fun i => m.getD i 0) = n at n_at
  have nlen : n.length = is.length := by rw [← hn, List.length_map]
  have nm : ∀ a ∈ n, a ∈ m := fun a ha => by
    obtain ⟨j, hj⟩ := List.mem_iff_getElem?.mp ha
    have hj' : j < is.length := by rw [← nlen]; exact (List.getElem?_eq_some_iff.mp hj).1
    rw [n_at j _ (List.getElem?_eq_getElem hj')] at hj
    exact List.mem_of_getElem? hj
  have ndn : n.Nodup := by
    refine List.pairwise_iff_getElem.mpr fun j k hj hk hjk heq => ?_
    have hj1 : j < is.length := by omega
    have hk1 : k < is.length := by omega
    have f1 := n_at j _ (List.getElem?_eq_getElem hj1)
    have f2 := n_at k _ (List.getElem?_eq_getElem hk1)
    rw [List.getElem?_eq_getElem hj, List.getElem?_eq_getElem (inr _ (List.getElem_mem hj1))] at f1
    rw [List.getElem?_eq_getElem hk, List.getElem?_eq_getElem (inr _ (List.getElem_mem hk1))] at f2
    have e3 := (List.getElem_inj I.nd).mp ((Option.some.inj f1).symm.trans (heq.trans (Option.some.inj f2)))
    have := (List.getElem_inj nd).mp e3
    omega
  have hin : ∀ j i : Nat, is[j]? = some i → ∀ a, m[i]? = some a → n[j]? = some a := fun j i e a ea => by rw [n_at j i e]; exact ea
  refine ⟨fun a => if a ∈ m ∧ a ∉ n then H a else R a, n, ⟨I.subF, fun a o e => ?_, fun a o e => ?_, nlen.trans hlen, fun j o e => ?_, fun a ha => ?_, ndn, trivial⟩, hin, ?_⟩
  · by_cases h : a ∈ m ∧ a ∉ n
    · have e' : (if a ∈ m ∧ a ∉ n then H a else R a) = some o := e
      rw [if_pos h] at e'; exact e'
    · have e' : (if a ∈ m ∧ a ∉ n then H a else R a) = some o := e
      rw [if_neg h] at e'; exact I.subR a o e'
  · by_cases h : a ∈ m ∧ a ∉ n
    · exact (I.free a h.1).1
    · have e' : (if a ∈ m ∧ a ∉ n then H a else R a) = some o := e
      rw [if_neg h] at e'; exact I.apart a o e'
  · obtain ⟨i, u, e1, e2, e3⟩ := lend_at hl j o e
    obtain ⟨a, e4, r⟩ := I.obj i u e3
    exact ⟨a, hin j i e1 a e4, renO_in (B := B) hin e2 r⟩
  · refine ⟨(I.free a (nm a ha)).1, ?_⟩
    show (if a ∈ m ∧ a ∉ n then H a else R a) = none
    rw [if_neg (fun h => h.2 ha)]
    exact (I.free a (nm a ha)).2
  · intro H' Gc' F' n' G' J s p hge hb
    obtain ⟨t, rfl⟩ := p
    have hRc : ∀ a, a ∈ m → a ∉ n → H' a = H a ∧ F' a = none := fun a h1 h2 => by
      obtain ⟨u, hu, _⟩ := I.there h1
      have e : (if a ∈ m ∧ a ∉ n then H a else R a) = some u := by rw [if_pos ⟨h1, h2⟩]; exact hu
      exact ⟨(J.subR a u e).trans hu.symm, J.apart a u e⟩
    have tlen : t.length = Gc'.length - is.length := by
      have := J.len
      rw [List.length_append] at this
      omega
    obtain ⟨ndn', ndt, dis⟩ := List.nodup_append.mp J.nd
    have tm : ∀ a ∈ t, a ∉ m := fun a ha hm => by
      by_cases h : a ∈ n
      · exact dis a h a ha rfl
      · obtain ⟨u, hu, _⟩ := I.there hm
        have e := (J.free a (List.mem_append_right _ ha)).2
        have e' : (if a ∈ m ∧ a ∉ n then H a else R a) = none := e
        rw [if_pos ⟨hm, h⟩, hu] at e'; cases e'
    unfold backG at hb
    cases hs1 : setAll (ext is G.length Gc'.length) G is Gc' with
    | none => rw [hs1] at hb; cases hb
    | some G1 =>
      cases hs2 : renOs (ext is G.length Gc'.length) (Gc'.drop is.length) with
      | none => rw [hs1, hs2] at hb; cases hb
      | some us =>
        rw [hs1, hs2] at hb
        cases hb
        obtain ⟨g1, g2, g3⟩ := setAll_spec hs1 nd (fun i hi => by rw [← I.len]; exact inr i hi)
        obtain ⟨u1, u2⟩ := renOs_spec hs2
        have hout : ∀ j i : Nat, (ext is G.length Gc'.length)[j]? = some i → ∀ a, (n ++ t)[j]? = some a → (m ++ t)[i]? = some a := fun j i e a ea => by
          unfold ext at e
          by_cases hj : j < is.length
          · rw [List.getElem?_append_left hj] at e
            rw [List.getElem?_append_left (by rw [nlen]; exact hj), n_at j i e] at ea
            rw [List.getElem?_append_left (List.getElem?_eq_some_iff.mp ea).1]
            exact ea
          · rw [List.getElem?_append_right (by omega), List.getElem?_map] at e
            rw [List.getElem?_append_right (by omega), nlen] at ea
            have hjt : j - is.length < Gc'.length - is.length := by rw [← tlen]; exact (List.getElem?_eq_some_iff.mp ea).1
            rw [List.getElem?_range hjt] at e
            cases e
            rw [List.getElem?_append_right (by rw [I.len]; exact Nat.le_add_left _ _), I.len, Nat.add_sub_cancel]
            exact ea
        refine ⟨m ++ t, ⟨J.subF, fun a o e => ?_, fun a o e => ?_, ?_, fun i u e => ?_, fun a ha => ?_, ?_, ?_⟩, List.prefix_append _ _, hout⟩
        · have hm : a ∉ m := fun h => by rw [(I.free a h).2] at e; cases e
          refine J.subR a o ?_
          show (if a ∈ m ∧ a ∉ n then H a else R a) = some o
          rw [if_neg (fun h => hm h.1)]; exact e
        · have hm : a ∉ m := fun h => by rw [(I.free a h).2] at e; cases e
          refine J.apart a o ?_
          show (if a ∈ m ∧ a ∉ n then H a else R a) = some o
          rw [if_neg (fun h => hm h.1)]; exact e
        · rw [List.length_append, List.length_append, g1, u1, List.length_drop, tlen, I.len]
        · by_cases hi : i < G1.length
          · rw [List.getElem?_append_left hi] at e
            by_cases his : i ∈ is
            · obtain ⟨j, hj⟩ := List.mem_iff_getElem?.mp his
              have hj' : j < is.length := (List.getElem?_eq_some_iff.mp hj).1
              obtain ⟨o, w, a1, a2, a3⟩ := g3 j i hj
              rw [e] at a3; cases a3
              obtain ⟨a, b1, r⟩ := J.obj j o a1
              refine ⟨a, hout j i ?_ a b1, renO_out (B := B) hout a2 r⟩
              unfold ext
              rw [List.getElem?_append_left hj']; exact hj
            · rw [g2 i his] at e
              obtain ⟨a, b1, r⟩ := I.obj i u e
              have ha : a ∉ n := fun h => by
                obtain ⟨j, hj⟩ := List.mem_iff_getElem?.mp h
                have hj' : j < is.length := by rw [← nlen]; exact (List.getElem?_eq_some_iff.mp hj).1
                rw [n_at j _ (List.getElem?_eq_getElem hj')] at hj
                obtain ⟨x1, y1⟩ := List.getElem?_eq_some_iff.mp hj
                obtain ⟨x2, y2⟩ := List.getElem?_eq_some_iff.mp b1
                have := (List.getElem_inj I.nd).mp (y1.trans y2.symm)
                exact his (this ▸ List.getElem_mem hj')
              refine ⟨a, pre_get (List.prefix_append _ _) b1, r.mono s (List.prefix_append _ _) (hRc a (List.mem_of_getElem? b1) ha).1⟩
          · rw [List.getElem?_append_right (by omega)] at e
            obtain ⟨o, a1, a2⟩ := u2 _ _ e
            rw [List.getElem?_drop] at a1
            obtain ⟨a, b1, r⟩ := J.obj _ o a1
            have hi2 : i - G1.length < Gc'.length - is.length := by
              have := (List.getElem?_eq_some_iff.mp a1).1
              omega
            refine ⟨a, hout (is.length + (i - G1.length)) i ?_ a b1, renO_out (B := B) hout a2 r⟩
            unfold ext
            rw [List.getElem?_append_right (by omega), List.getElem?_map, Nat.add_sub_cancel_left, List.getElem?_range hi2]
            show some (i - G1.length + G.length) = some i
            rw [← g1]
            congr 1
            omega
        · rcases List.mem_append.mp ha with h | h
          · refine ⟨?_, (I.free a h).2⟩
            by_cases hn : a ∈ n
            · exact (J.free a (List.mem_append_left _ hn)).1
            · exact (hRc a h hn).2
          · have := J.free a (List.mem_append_right _ h)
            refine ⟨this.1, ?_⟩
            have e' : (if a ∈ m ∧ a ∉ n then H a else R a) = none := this.2
            rwa [if_neg (fun z => tm a h z.1)] at e'
        · exact List.nodup_append.mpr ⟨I.nd, ndt, fun a ha b hb e => tm b hb (e ▸ ha)⟩
        · exact B.up _ _ _ _ s (List.prefix_append _ _) I.fl
theorem call_le {B : Bx} {sp : DSp} {E : XK} {H : Hp} {G : DHp} {F R : Hp} {m : List Addr} {ds : List D} {vs : List V} {QD : DK} {Q : VK} (I : HRel B H G F R m) (r : RepL B.K F m ds vs) (h : dCallR sp ds G QD) (post : PostV B F R m QD Q) :
    liftSp B.K B.mg sp vs H Q E := by
  unfold dCallR at h
  obtain ⟨is, Gc, dsc, nd, hl, hr, h⟩ := h
  obtain ⟨Rc, n, J, hin, hout⟩ := lent I nd hl
  refine ⟨dsc, Gc, F, Rc, n, _, J, renL_in hin hr r, h, fun d Gc' v H' F' n' J' s p rd q => ?_⟩
  obtain ⟨hge, d', G', e1, e2, q⟩ := q
  obtain ⟨m', K', p', ho⟩ := hout H' Gc' F' n' G' J' s p hge e2
  exact post d' G' v H' F' m' K' s p' (ren_out ho e1 rd) q
end DL

/-! DLj: a def's promise from its body; the call as a rule. -/
namespace DL
open PySem PySem.Spec PyProof.Rows L2

mutual
/-- all objects that it names stand among the first k -/
def wfD (k : Nat) : D → Bool
  | .ref j => decide (j < k)
  | .tup xs => wfL k xs
  | .tw _ => false
  | .fl xs => wfL k xs
  | .sl xs => wfL k xs
  | .non => true
  | .bl _ => true
  | .int _ => true
  | .str _ => true
  | .ty _ => true
  | .fd => true
def wfL (k : Nat) : List D → Bool
  | [] => true
  | d :: ds => wfD k d && wfL k ds
end
def wfF (k : Nat) : List (Str × D) → Bool
  | [] => true
  | p :: r => wfD k p.2 && wfF k r
def wfO (k : Nat) : DO → Bool
  | .lst xs => wfL k xs
  | .ins _ fs => wfF k fs
section
variable {K : PySem.W.Frag} {F : Hp} {m : List Addr} {k : Nat}
mutual
theorem Rep.trunc : ∀ {d : D} {v : V}, wfD k d = true → Rep K F m d v → Rep K F (m.take k) d v
  | _, _, _, .non => .non
  | _, _, _, .bl b => .bl b
  | _, _, _, .int i => .int i
  | _, _, _, .str x => .str x
  | _, _, _, .ty n => .ty n
  | _, _, h, .tup h1 r z => .tup h1 (RepL.trunc h r) z
  | _, _, h, .tw h1 r z => by cases h
  | _, _, h, .fl h1 r z => .fl h1 (RepL.trunc h r) z
  | _, _, h, .sl h1 r z => .sl h1 (RepL.trunc h r) z
  | _, _, _, .fd h1 => .fd h1
  | _, _, h, .ref e => .ref (by rw [List.getElem?_take, if_pos (of_decide_eq_true h)]; exact e)
theorem RepL.trunc : ∀ {ds : List D} {vs : List V}, wfL k ds = true → RepL K F m ds vs → RepL K F (m.take k) ds vs
  | _, _, _, .nil => .nil
  | d :: ds, _, h, .cons r t => by
    have h' : wfD k d = true ∧ wfL k ds = true := by simpa [wfL] using h
    exact .cons (Rep.trunc h'.1 r) (RepL.trunc h'.2 t)
end
theorem FRep.trunc : ∀ {ps : List (Str × D)} {qs : List (Str × V)}, wfF k ps = true → FRep K F m ps qs → FRep K F (m.take k) ps qs
  | [], [], _, _ => trivial
  | p :: ps, q :: qs, h, r => by
    have h' : wfD k p.2 = true ∧ wfF k ps = true := by simpa [wfF] using h
    exact ⟨r.1, r.2.1.trunc h'.1, FRep.trunc h'.2 r.2.2⟩
  | [], _ :: _, _, z => z.elim
  | _ :: _, [], _, z => z.elim
end
theorem HRel.trunc {K : PySem.W.Frag} {mg : Str → Option Value} {H : Hp} {G : DHp} {F R : Hp} {m : List Addr} {k : Nat} (I : HRel (B0 K mg) H G F R m) (hw : (G.take k).all (wfO k) = true) : HRel (B0 K mg) H (G.take k) F R (m.take k) where
  subF := I.subF
  subR := I.subR
  apart := I.apart
  len := by rw [List.length_take, List.length_take, I.len]
  obj := fun i o e => by
    have hi : i < k := by
      have := (List.getElem?_eq_some_iff.mp e).1
      rw [List.length_take] at this
      omega
    have ho := List.all_eq_true.mp hw o (List.mem_of_getElem? e)
    rw [List.getElem?_take, if_pos hi] at e
    obtain ⟨a, e1, r⟩ := I.obj i o e
    refine ⟨a, by rw [List.getElem?_take, if_pos hi]; exact e1, ?_⟩
    cases o with
    | lst xs => obtain ⟨vs, h1, h2, z⟩ := r; exact ⟨vs, h1, h2.trunc ho, z⟩
    | ins c fs => obtain ⟨C, dx, vs, h1, h2, h3⟩ := r; exact ⟨C, dx, vs, h1, h2, h3.trunc ho⟩
  free := fun a h => I.free a (List.mem_of_mem_take h)
  nd := I.nd.sublist (List.take_sublist _ _)
  fl := trivial
/-- what is told behind a def's end: the objects that nobody needs any more are left away -/
@[irreducible] def dForget (n : Nat) (Q : DK) : DK := fun d G => ∃ k, n ≤ k ∧ k ≤ G.length ∧ (G.take k).all (wfO k) = true ∧
  ((wfD k d = true ∧ Q d (G.take k)) ∨ ∃ j xs, d = .ref j ∧ k ≤ j ∧ G[j]? = some (.lst xs) ∧ wfL k xs = true ∧ Q (.fl xs) (G.take k))
/-- a list that nobody else knows is frozen -/
theorem HRel.froze {K : PySem.W.Frag} {mg : Str → Option Value} {H : Hp} {G : DHp} {F R : Hp} {m : List Addr} {k j : Nat} {xs : List D} {v : V} (I : HRel (B0 K mg) H G F R m) (hw : (G.take k).all (wfO k) = true) (hj : k ≤ j) (e : G[j]? = some (.lst xs)) (hx : wfL k xs = true)
    (r : Rep K F m (.ref j) v) : ∃ F', Same F F' ∧ HRel (B0 K mg) H (G.take k) F' R (m.take k) ∧ Rep K F' (m.take k) (.fl xs) v := by
  obtain ⟨p, vs, rfl, em, hH, l, z⟩ := I.own r e
  have hp := I.free p (List.mem_of_getElem? em)
  have hno : p ∉ m.take k := fun hm => by
    obtain ⟨i, hi⟩ := List.mem_iff_getElem?.mp hm
    have hik : i < k := by
      have := (List.getElem?_eq_some_iff.mp hi).1
      rw [List.length_take] at this
      omega
    rw [List.getElem?_take, if_pos hik] at hi
    obtain ⟨a1, a2⟩ := List.getElem?_eq_some_iff.mp hi
    obtain ⟨b1, b2⟩ := List.getElem?_eq_some_iff.mp em
    have := (List.getElem_inj I.nd).mp (a2.trans b2.symm)
    omega
  have s := same_upd (o := HO.lst vs) hp.1
  exact ⟨_, s, (I.trunc hw).toF hH hp.1 hp.2 hno, .fl upd_same ((l.trunc hx).mono s (List.prefix_refl _)) z⟩
def startD (N : List Str) (ds : List D) : DSt := ds.map some ++ List.replicate (N.length - ds.length) none
theorem repL_get {K : PySem.W.Frag} {F : Hp} {m : List Addr} {ds : List D} {vs : List V} (h : RepL K F m ds vs) {i : Nat} {d : D} (e : ds[i]? = some d) : ∃ v, vs[i]? = some v ∧ Rep K F m d v := h.get e
theorem start_rel {K : PySem.W.Frag} {F : Hp} {m : List Addr} {ds : List D} {vs : List V} {N : List Str} (l : RepL K F m ds vs) :
    (startD N ds).length = (L2.start N vs).length ∧ ∀ (i : Nat) d, (startD N ds)[i]? = some (some d) → ∃ v, (L2.start N vs)[i]? = some (some v) ∧ Rep K F m d v := by
  unfold startD L2.start
  refine ⟨by simp only [List.length_append, List.length_map, List.length_replicate, l.length], fun i d h => ?_⟩
  by_cases hi : i < ds.length
  · rw [List.getElem?_append_left (by rw [List.length_map]; exact hi), List.getElem?_map] at h
    cases e : ds[i]? with
    | none => rw [e] at h; cases h
    | some x =>
      rw [e] at h
      cases h
      obtain ⟨v, e1, r⟩ := l.get e
      refine ⟨v, ?_, r⟩
      rw [List.getElem?_append_left (by rw [List.length_map, ← l.length]; exact hi), List.getElem?_map, e1]
      rfl
  · rw [List.getElem?_append_right (by rw [List.length_map]; omega), List.getElem?_replicate] at h
    split at h <;> cases h
/-- THE RULE for a def that lets nothing out -/
theorem fnD {P : Program} {w : World} {K : PySem.W.Frag} {mg : Str → Option Value} {base : Heap} {x qual : Str} {st : Stmt} {f : Addr} {fd : FuncData} {N ps : List Str} {k : Nat} {sp : DSp} {tS : DTS}
    (F : Fun K x qual st f fd) (S : FnScope N ps (defScope st))
    (hb : ∀ (cdv : Value) (A : Around) (outer : List Env) (s : Shared) (H : Hp) (E : XK), Room k (A.deeper (envOfC qual (defScope st) s.heap.objs.size f cdv)) → PSs (cxOf CX0 P w K mg base N qual (defScope st) f cdv A outer s H E).nox (defBody st) (liftS (B0 K mg) tS))
    (hsp : ∀ ds G Q, sp ds G Q → ds.length = ps.length ∧ tS { nx := fun _ G' => dForget G.length Q .non G', rt := dForget G.length Q } (startD N ds) G) : FnOk P w K mg base CX0 (k + 1) f fd ps (liftSp K mg sp) := by
  refine F.ok S (fun vs H Q E h => ?_) fun cdv A outer s H vs Q E hr h => ⟨_, hb cdv A outer s H E hr, ?_⟩
  · obtain ⟨ds, G, F, R, m, QD, _, l, q, _⟩ := h
    rw [← l.length]
    exact (hsp ds G QD q).1
  · obtain ⟨ds, G, F, R, m, QD, I, l, q, post⟩ := h
    obtain ⟨e1, e2⟩ := start_rel (N := N) l
    have fin : ∀ d G' v H' F' m', HRel (B0 K mg) H' G' F' R m' → Same F F' → m <+: m' → Rep K F' m' d v → dForget G.length QD d G' → Q v H' := fun d G' v H' F' m' J s p r hd => by
      unfold dForget at hd
      obtain ⟨j, h1, h2, h4, h5⟩ := hd
      have pre : m <+: m'.take j := by
        obtain ⟨t, rfl⟩ := p
        have hj : m.length ≤ j := by rw [I.len]; exact h1
        rw [List.take_append, List.take_of_length_le hj]
        exact List.prefix_append _ _
      rcases h5 with ⟨h3, h5⟩ | ⟨i, xs, rfl, hi, e, hx, h5⟩
      · exact post d (G'.take j) v H' F' (m'.take j) (J.trunc h4) s pre (r.trunc h3) h5
      · obtain ⟨F'', s2, J2, r2⟩ := J.froze h4 hi e hx r
        exact post (.fl xs) (G'.take j) v H' F'' (m'.take j) J2 (s.trans s2) pre r2 h5
    refine ⟨_, G, F, R, m, _, ⟨I, e1, e2⟩, (hsp ds G QD q).2, ⟨fun ρ' G' σ' H' F' m' J s p h => fin .non G' .non H' F' m' J.toHRel s p .non h, fin, fun _ _ _ _ _ _ _ _ _ h => h.elim, fun _ _ _ _ _ _ _ _ _ h => h.elim⟩⟩
theorem de_call {X : Cx} {B : Bx} {k : Nat} {f : Addr} {fd : FuncData} {ps : List Str} {sp : DSp} {x : Str} {p pos : Pos} {e : Expr} {es : List Expr} {t : DTA} (hK : X.K = B.K) (hG : X.mg = B.mg)
    (F : FnOk X.prog X.w X.K X.mg X.base CX0 k f fd ps (liftSp X.K X.mg sp)) (hr : Room k X.A) (hg : Gl X x) (hm : X.mg x = some (.ref f)) (hk : PySem.W.keepIn X.K (.ref f) = true) (hb : Binds X.K fd ps []) (ha : PA X (e :: es) (liftA B t)) (hdb : (x == ("__debug__" : Str)) = false)
    (he : starEach (e :: es) X.env = (false, eval e X.env) :: starEach es X.env) (hpl : (backTo pos (starEach es X.env)).any (·.1) = false) : PE X (.Call (.Name x p) (e :: es) [] pos) (liftE B (dCall sp t)) := by
  refine PE.imp (pe_call F hr hg hm hk hb .nil pass0 ha hdb he hpl) fun σ H Q ⟨ρ, G, F, R, m, QD, I, t, post⟩ => ⟨ρ, G, F, R, m, _, I, t, fun ds G1 vs H1 F1 m1 J s p rs q => ?_⟩
  show liftSp X.K X.mg sp (vs ++ []) H1 Q E0
  rw [List.append_nil, hK, hG]
  exact call_le J rs q (post.next s p)
end DL

/-! DLk: a small language, its reading, its check against the program's tree. -/
namespace DL
open PySem PySem.Spec PyProof.Rows L2

inductive Bi where
  | abs | max | min | len | sum | any | all | isi | int | str | tuple
  deriving DecidableEq
def Bi.nm : Bi → Str
  | .abs => "abs" | .max => "max" | .min => "min" | .len => "len" | .sum => "sum" | .any => "any" | .all => "all" | .isi => "isinstance" | .int => "int" | .str => "str" | .tuple => "tuple"
def Bi.rd : Bi → DCall
  | .abs => absB | .max => maxB | .min => minB | .len => lenB | .sum => sumB | .any => anyB | .all => allB | .isi => isiB | .int => intB | .str => strB | .tuple => tupleB
inductive BiN where
  | list
  deriving DecidableEq
def BiN.nm : BiN → Str
  | .list => "list"
def BiN.rd : BiN → DCallN
  | .list => listB
inductive Mt where
  | append | pop | popAt | clear | count | index | extend
  deriving DecidableEq
def Mt.nm : Mt → Str
  | .append => "append" | .pop => "pop" | .popAt => "pop" | .clear => "clear" | .count => "count" | .index => "index" | .extend => "extend"
def Mt.ty : Mt → String
  | _ => "list"
def Mt.rd : Mt → DMet
  | .append => appendM | .pop => popM | .popAt => popAtM | .clear => clearM | .count => countM | .index => indexM | .extend => extendM
def Mt.none : Mt → Bool
  | .pop => true | .clear => true | _ => false
inductive MtT where
  | count | index
  deriving DecidableEq
def MtT.nm : MtT → Str
  | .count => "count" | .index => "index"
def MtT.rd : MtT → DMet
  | .count => countT | .index => indexT
inductive Ty4 where
  | int | bool | tuple | str | list
  deriving DecidableEq
def Ty4.nm : Ty4 → String
  | .int => "int" | .bool => "bool" | .tuple => "tuple" | .str => "str" | .list => "list"
def opR : Operator → DOp2
  | .Add => addD | .Sub => subD | .Mult => mulD | .FloorDiv => divD | .Mod => modD | .Pow => powD | .RShift => shrD
  | _ => fun _ _ _ _ => False
def opN : Operator → DOpN
  | .Add => catN | .Mult => repN
  | _ => fun _ _ _ _ => False
def cmpR : CmpOp → DOp2
  | .Eq => eqR | .NotEq => neR | .Lt => ltR | .LtE => leR | .Gt => gtR | .GtE => geR | .Is => isR | .IsNot => isntR | .In => inR false | .NotIn => inR true

mutual
inductive E where
  | var (i : Nat) | lit (d : D) | tyc (t : Ty4) | con (x : Str) (d : D)
  | op (o : Operator) (a b : E) | neg (a : E) | cmp (o : CmpOp) (a b : E) | chain (o o' : CmpOp) (a b c : E)
  | nt (a : E) | and (a b : E) | or (a b : E)
  | tup (es : List E) | mk (own : Bool) (n : Nw)
  | sub (a i : E) | slc (a : E) (lo hi : Option E)
  | bi (b : Bi) (es : List E) | met (b : Mt) (o : E) (es : List E) | call (f : Str) (sp : DSp) (es : List E)
  | mtT (b : MtT) (o : E) (es : List E) | revT (a : E) | lenS (a : E) | dct0 | dct1 (i j : Int)
inductive T where
  | tru (e : E) | cmp (o : CmpOp) (a b : E) | chain (o o' : CmpOp) (a b c : E) | nt (a : T) | and (a b : T) | or (a b : T)
inductive Nw where
  | lst (es : List E) | op (o : Operator) (a b : E) | slc (a : E) (lo hi : Option E) | bi (b : BiN) (es : List E)
  | lc (own : List (Str × Nat)) (t : Tg) (it : Ir) (c : Option T) (e : E)
  | revL (a : E) | lr1 (a : E) | lr2 (a b : E)
inductive Ir where
  | seq (e : E) | rng1 (e : E) | rng2 (a b : E) | zip (a b : E) | enum (e : E) | rev (e : E)
end
mutual
def sem : E → DTE
  | .var i => dVar i
  | .lit d => dLit d
  | .tyc t => dLit (.ty t.nm)
  | .con _ d => dLit d
  | .op o a b => dOp (opR o) (sem a) (sem b)
  | .neg a => dNeg (sem a)
  | .cmp o a b => dOp (cmpR o) (sem a) (sem b)
  | .chain o o' a b c => dChain (cmpR o) (cmpR o') (sem a) (sem b) (sem c)
  | .nt a => dNotV (sem a)
  | .and a b => dAndV (sem a) (sem b)
  | .or a b => dOrV (sem a) (sem b)
  | .tup es => dTup (semL es)
  | .mk true n => dOwn (semN n)
  | .mk false n => dFrz (semN n)
  | .sub a i => dOp ixD (sem a) (sem i)
  | .slc a lo hi => dSl (sem a) (semO lo) (semO hi)
  | .bi b es => dBi b.rd (semL es)
  | .met b o es => dMet b.ty b.rd (sem o) (semL es)
  | .call _ sp es => dCall sp (semL es)
  | .mtT b o es => dMetT b.rd (sem o) (semL es)
  | .revT a => dRevT (sem a)
  | .lenS a => dLenSet (sem a)
  | .dct0 => dLit .fd
  | .dct1 _ _ => dLit .fd
def semT : T → DTT
  | .tru e => dTru (sem e)
  | .cmp o a b => dIsB (dOp (cmpR o) (sem a) (sem b))
  | .chain o o' a b c => dIsB (dChain (cmpR o) (cmpR o') (sem a) (sem b) (sem c))
  | .nt a => dNot (semT a)
  | .and a b => dAnd (semT a) (semT b)
  | .or a b => dOr (semT a) (semT b)
def semN : Nw → DTA
  | .lst es => dLst (semL es)
  | .op o a b => dOpN (opN o) (sem a) (sem b)
  | .slc a lo hi => dSlN (sem a) (semO lo) (semO hi)
  | .bi b es => dBiN b.rd (semL es)
  | .lc own t it c e => dLc (semI it) t (own.map (·.2)) (semC c) (sem e)
  | .revL a => dRevL (sem a)
  | .lr1 a => dLR1 (sem a)
  | .lr2 a b => dLR2 (sem a) (sem b)
def semI : Ir → DTI
  | .seq e => dSeq (sem e)
  | .rng1 e => dRange1 (sem e)
  | .rng2 a b => dRange2 (sem a) (sem b)
  | .zip a b => dZip (sem a) (sem b)
  | .enum e => dEnum (sem e)
  | .rev e => dRev (sem e)
def semL : List E → DTA
  | [] => dNil
  | e :: es => dCons (sem e) (semL es)
def semO : Option E → DTO
  | none => dNoPart
  | some e => dPart (sem e)
def semC : Option T → DTT
  | none => dYes
  | some c => semT c
end

/-! ### the check -/
structure Cfg where
  N : List Str
  sc : Scope
  orig : Scope
  bi : List Str
def Cfg.gl (c : Cfg) (x : Str) : Bool := decide (c.sc.names.lookup x = some .globalImplicit)
def Cfg.vis (c : Cfg) (i : Nat) (x : Str) : Bool := decide (c.N[i]? = some x) && (match c.sc.names.lookup x with | some .local => true | some .cell => true | some .free => true | _ => false) && !(x == ("__debug__" : Str)) && !(x == ("__classdict__" : Str))
def Cfg.loc (c : Cfg) (i : Nat) (x : Str) : Bool := decide (c.N[i]? = some x) && (match c.sc.names.lookup x with | some .local => true | some .cell => decide (c.orig.names.lookup x = some .cell) | _ => false)
def Cfg.blt (c : Cfg) (x : Str) : Bool := c.gl x && c.bi.contains x
def Cfg.blk (c : Cfg) (scope : Scope) : Cfg := { c with sc := relS scope c.sc, orig := scope }
def plain : Expr → Bool
  | .Starred .. => false
  | _ => true
def noSlice : Expr → Bool
  | .Slice .. => false
  | _ => true
def noSet : Expr → Bool
  | .Set .. => false
  | _ => true
def noComp : Expr → Bool
  | .ListComp .. => false
  | .SetComp .. => false
  | .DictComp .. => false
  | _ => true
/-- o.name: o is no call without arguments (super) -/
def noSuper : Expr → Bool
  | .Call _ [] [] _ => false
  | _ => true
def litOk : D → Const → Bool
  | .int i, .int j => i == j
  | .bl a, .bool b => a == b
  | .non, .none => true
  | .str x, .str y => x == y
  | _, _ => false
mutual
def chkG (c : Cfg) : Tg → Expr → Bool
  | .nm i, .Name x _ => c.loc i x
  | .tp ts, .Tuple es _ _ => chkGs c ts es
  | _, _ => false
def chkGs (c : Cfg) : List Tg → List Expr → Bool
  | [], [] => true
  | t :: ts, e :: es => chkG c t e && plain e && chkGs c ts es
  | _, _ => false
end
def truE : Expr → Bool
  | .Name .. => true
  | .Call .. => true
  | .Subscript .. => true
  | .Attribute .. => true
  | _ => false
mutual
def chk (c : Cfg) : E → Expr → Bool
  | .var i, x => match x with
    | .Name x _ => c.vis i x
    | _ => false
  | .lit d, x => match x with
    | .Constant k _ _ => litOk d k
    | _ => false
  | .tyc t, x => match x with
    | .Name x _ => c.blt x && x == Str.ofString t.nm
    | _ => false
  | .con y _, x => match x with
    | .Name x _ => c.gl x && x == y && !(x == ("__debug__" : Str))
    | _ => false
  | .op o a b, x => match x with
    | .BinOp x o' y _ => decide (o = o') && chk c a x && chk c b y
    | _ => false
  | .neg a, x => match x with
    | .UnaryOp .USub x _ => chk c a x
    | _ => false
  | .cmp o a b, x => match x with
    | .Compare x [o'] [y] _ => decide (o = o') && !behindInMarks o y && chk c a x && chk c b y
    | _ => false
  | .chain o p a b d, x => match x with
    | .Compare x [o', p'] [y, z] _ => decide (o = o') && decide (p = p') && !lastMarks [o, p] [y, z] && chk c a x && chk c b y && chk c d z
    | _ => false
  | .nt a, x => match x with
    | .UnaryOp .Not x _ => chk c a x
    | _ => false
  | .and a b, x => match x with
    | .BoolOp .And [x, y] _ => chk c a x && chk c b y
    | .BoolOp .And (x :: y :: z :: r) pos => chk c a x && chk c b (.BoolOp .And (y :: z :: r) pos)
    | _ => false
  | .or a b, x => match x with
    | .BoolOp .Or [x, y] _ => chk c a x && chk c b y
    | .BoolOp .Or (x :: y :: z :: r) pos => chk c a x && chk c b (.BoolOp .Or (y :: z :: r) pos)
    | _ => false
  | .tup es, x => match x with
    | .Tuple xs _ _ => chkL c es xs
    | _ => false
  | .mk _ n, x => chkN c n x
  | .sub a i, x => match x with
    | .Subscript x y _ => noSlice y && chk c a x && chk c i y
    | _ => false
  | .slc a lo hi, x => match x with
    | .Subscript x (.Slice l h none _) _ => chk c a x && chkO c lo l && chkO c hi h
    | _ => false
  | .bi b es, x => match x with
    | .Call (.Name f _) (x :: xs) [] _ => c.blt f && f == b.nm && chkL c es (x :: xs)
    | _ => false
  | .met b o es, x => match x with
    | .Call (.Attribute x f ap) xs [] cp => f == b.nm && noSuper x && (ap.endLine == cp.line) && (b.none == xs.isEmpty) && decide (xs.length < 30) && chk c o x && chkL c es xs
    | _ => false
  | .call g _ es, x => match x with
    | .Call (.Name f _) (x :: xs) [] _ => c.gl f && f == g && !(f == ("__debug__" : Str)) && chkL c es (x :: xs)
    | _ => false
  | .mtT b o es, x => match x with
    | .Call (.Attribute x f ap) (y :: xs) [] cp => f == b.nm && noSuper x && (ap.endLine == cp.line) && decide (xs.length < 29) && chk c o x && chkL c es (y :: xs)
    | _ => false
  | .revT a, x => match x with
    | .Subscript x (.Slice none none (some (.UnaryOp .USub (.Constant (.int 1) _ _) _)) _) _ => chk c a x
    | _ => false
  | .lenS a, x => match x with
    | .Call (.Name f _) [.Call (.Name g _) [x] [] _] [] _ => c.blt f && f == ("len" : Str) && c.blt g && g == ("set" : Str) && plain x && chk c a x
    | _ => false
  | .dct0, x => match x with
    | .Dict [] [] _ => true
    | _ => false
  | .dct1 i j, x => match x with
    | .Dict [some (.Constant (.int i') _ _)] [.Constant (.int j') _ _] _ => i == i' && j == j'
    | _ => false
def chkT (c : Cfg) : T → Expr → Bool
  | .tru e, x => truE x && chk c e x
  | .cmp o a b, x => match x with
    | .Compare x [o'] [y] _ => decide (o = o') && !behindInMarks o y && chk c a x && chk c b y
    | _ => false
  | .chain o p a b d, x => match x with
    | .Compare x [o', p'] [y, z] _ => decide (o = o') && decide (p = p') && !lastMarks [o, p] [y, z] && chk c a x && chk c b y && chk c d z
    | _ => false
  | .nt a, x => match x with
    | .UnaryOp .Not x _ => chkT c a x
    | _ => false
  | .and a b, x => match x with
    | .BoolOp .And [x, y] _ => chkT c a x && chkT c b y
    | .BoolOp .And (x :: y :: z :: r) pos => chkT c a x && chkT c b (.BoolOp .And (y :: z :: r) pos)
    | _ => false
  | .or a b, x => match x with
    | .BoolOp .Or [x, y] _ => chkT c a x && chkT c b y
    | .BoolOp .Or (x :: y :: z :: r) pos => chkT c a x && chkT c b (.BoolOp .Or (y :: z :: r) pos)
    | _ => false
def chkN (c : Cfg) : Nw → Expr → Bool
  | .lst es, x => match x with
    | .List xs _ => chkL c es xs
    | _ => false
  | .op o a b, x => match x with
    | .BinOp x o' y _ => decide (o = o') && chk c a x && chk c b y
    | _ => false
  | .slc a lo hi, x => match x with
    | .Subscript x (.Slice l h none _) _ => chk c a x && chkO c lo l && chkO c hi h
    | _ => false
  | .bi b es, x => match x with
    | .Call (.Name f _) (x :: xs) [] _ => c.blt f && f == b.nm && chkL c es (x :: xs)
    | _ => false
  | .lc own t it oc e, x => match x with
    | .ListComp elt [⟨tg, iter, ifs, 0⟩] scope _ => noSet iter && chkI c it tg iter && blkC c.N c.sc scope own && t.own (own.map (·.2)) && chkG (c.blk scope) t tg && chkC (c.blk scope) oc ifs && chk (c.blk scope) e elt
    | _ => false
  | .revL a, x => match x with
    | .Subscript x (.Slice none none (some (.UnaryOp .USub (.Constant (.int 1) _ _) _)) _) _ => chk c a x
    | _ => false
  | .lr1 a, x => match x with
    | .Call (.Name f _) [.Call (.Name g _) [x] [] _] [] _ => c.blt f && f == ("list" : Str) && c.blt g && g == ("range" : Str) && plain x && chk c a x
    | _ => false
  | .lr2 a b, x => match x with
    | .Call (.Name f _) [.Call (.Name g _) [x, y] [] _] [] _ => c.blt f && f == ("list" : Str) && c.blt g && g == ("range" : Str) && plain x && plain y && chk c a x && chk c b y
    | _ => false
def chkI (c : Cfg) : Ir → Expr → Expr → Bool
  | .seq e, _, x => chk c e x
  | .rng1 e, _, x => match x with
    | .Call (.Name f _) [x] [] _ => c.blt f && f == ("range" : Str) && plain x && chk c e x
    | _ => false
  | .rng2 a b, _, x => match x with
    | .Call (.Name f _) [x, y] [] _ => c.blt f && f == ("range" : Str) && plain x && plain y && chk c a x && chk c b y
    | _ => false
  | .zip a b, tg, x => match tg, x with
    | .Tuple _ _ _, .Call (.Name f _) [x, y] [] _ => c.blt f && f == ("zip" : Str) && plain x && plain y && chk c a x && chk c b y
    | _, _ => false
  | .enum e, tg, x => match tg, x with
    | .Tuple _ _ _, .Call (.Name f _) [x] [] _ => c.blt f && f == ("enumerate" : Str) && plain x && chk c e x
    | _, _ => false
  | .rev e, _, x => match x with
    | .Call (.Name f _) [x] [] _ => c.blt f && f == ("reversed" : Str) && plain x && chk c e x
    | _ => false
def chkL (c : Cfg) : List E → List Expr → Bool
  | [], xs => xs.isEmpty
  | e :: es, xs => match xs with
    | x :: xs => plain x && chk c e x && chkL c es xs
    | [] => false
def chkO (c : Cfg) : Option E → Option Expr → Bool
  | none, x => x.isNone
  | some e, x => match x with
    | some x => chk c e x
    | none => false
def chkC (c : Cfg) : Option T → List Expr → Bool
  | none, xs => xs.isEmpty
  | some t, xs => match xs with
    | [x] => chkT c t x
    | _ => false
end
mutual
/-- what the calls and the constants of a text are, said once each -/
def us (fp : Str → DSp → Prop) (cp : Str → D → Prop) : E → Prop
  | .var _ => True
  | .lit _ => True
  | .tyc _ => True
  | .con x d => cp x d
  | .op _ a b => us fp cp a ∧ us fp cp b
  | .neg a => us fp cp a
  | .cmp _ a b => us fp cp a ∧ us fp cp b
  | .chain _ _ a b d => us fp cp a ∧ us fp cp b ∧ us fp cp d
  | .nt a => us fp cp a
  | .and a b => us fp cp a ∧ us fp cp b
  | .or a b => us fp cp a ∧ us fp cp b
  | .tup es => usL fp cp es
  | .mk _ n => usN fp cp n
  | .sub a i => us fp cp a ∧ us fp cp i
  | .slc a lo hi => us fp cp a ∧ usO fp cp lo ∧ usO fp cp hi
  | .bi _ es => usL fp cp es
  | .met _ o es => us fp cp o ∧ usL fp cp es
  | .call f sp es => fp f sp ∧ usL fp cp es
  | .mtT _ o es => us fp cp o ∧ usL fp cp es
  | .revT a => us fp cp a
  | .lenS a => us fp cp a
  | .dct0 => True
  | .dct1 _ _ => True
def usT (fp : Str → DSp → Prop) (cp : Str → D → Prop) : T → Prop
  | .tru e => us fp cp e
  | .cmp _ a b => us fp cp a ∧ us fp cp b
  | .chain _ _ a b d => us fp cp a ∧ us fp cp b ∧ us fp cp d
  | .nt a => usT fp cp a
  | .and a b => usT fp cp a ∧ usT fp cp b
  | .or a b => usT fp cp a ∧ usT fp cp b
def usN (fp : Str → DSp → Prop) (cp : Str → D → Prop) : Nw → Prop
  | .lst es => usL fp cp es
  | .op _ a b => us fp cp a ∧ us fp cp b
  | .slc a lo hi => us fp cp a ∧ usO fp cp lo ∧ usO fp cp hi
  | .bi _ es => usL fp cp es
  | .lc _ _ it oc e => usI fp cp it ∧ usC fp cp oc ∧ us fp cp e
  | .revL a => us fp cp a
  | .lr1 a => us fp cp a
  | .lr2 a b => us fp cp a ∧ us fp cp b
def usI (fp : Str → DSp → Prop) (cp : Str → D → Prop) : Ir → Prop
  | .seq e => us fp cp e
  | .rng1 e => us fp cp e
  | .rng2 a b => us fp cp a ∧ us fp cp b
  | .zip a b => us fp cp a ∧ us fp cp b
  | .enum e => us fp cp e
  | .rev e => us fp cp e
def usL (fp : Str → DSp → Prop) (cp : Str → D → Prop) : List E → Prop
  | [] => True
  | e :: es => us fp cp e ∧ usL fp cp es
def usO (fp : Str → DSp → Prop) (cp : Str → D → Prop) : Option E → Prop
  | none => True
  | some e => us fp cp e
def usC (fp : Str → DSp → Prop) (cp : Str → D → Prop) : Option T → Prop
  | none => True
  | some t => usT fp cp t
end
end DL

/-! DLl: what is checked is read rightly. -/
namespace DL
open PySem PySem.Spec PyProof.Rows L2

def FnAt (P : Program) (w : World) (K : PySem.W.Frag) (mg : Str → Option Value) (base : Heap) (k : Nat) (x : Str) (sp : DSp) : Prop :=
  ∃ f fd ps, FnOk P w K mg base CX0 k f fd ps (liftSp K mg sp) ∧ mg x = some (.ref f) ∧ PySem.W.keepIn K (.ref f) = true ∧ Binds K fd ps []
def ConAt (K : PySem.W.Frag) (mg : Str → Option Value) (x : Str) (d : D) : Prop := ∃ u v, mg x = some u ∧ RelV v u ∧ ∀ F m, Rep K F m d v
structure XOk (B : Bx) (k : Nat) (fp : Str → DSp → Prop) (cp : Str → D → Prop) (c : Cfg) (X : Cx) : Prop where
  K : X.K = B.K
  mg : X.mg = B.mg
  N : X.N = c.N
  nd : c.N.Nodup
  sc : X.env.scope = c.sc
  fnv : ∀ x, c.orig.names.lookup x = some .cell → X.fn x = true
  calm : X.calm = true
  room : Room k X.A
  bi : ∀ x, c.bi.contains x = true → X.mg x = none
  po : PassesOwn (model X.prog X.w) X.A X.env X.xe
  fns : ∀ f sp, fp f sp → FnAt X.prog X.w B.K B.mg X.base k f sp
  cons : ∀ x d, cp x d → ConAt B.K B.mg x d

theorem star_plain {e : Expr} {es : List Expr} {env : Env} (h : plain e = true) : starEach (e :: es) env = (false, eval e env) :: starEach es env := by
  cases e <;> first | rfl | cases h
theorem assign_plain {e : Expr} {es : List Expr} {env : Env} (h : plain e = true) : assignEach (e :: es) env = (false, assign e env) :: assignEach es env := by
  cases e <;> first | rfl | cases h
theorem stars_plain {pos : Pos} {env : Env} : ∀ {es : List Expr}, es.all plain = true → (backTo pos (starEach es env)).any (·.1) = false ∧ (backTo pos (starEach es env)).all (fun x => !x.1) = true
  | [], _ => ⟨rfl, rfl⟩
  | e :: es, h => by
    rw [List.all_cons, Bool.and_eq_true] at h
    obtain ⟨h1, h2⟩ := stars_plain (pos := pos) (env := env) h.2
    rw [star_plain h.1]
    exact ⟨by show (false || (backTo pos (starEach es env)).any (·.1)) = false; rw [h1]; rfl, by show (!false && (backTo pos (starEach es env)).all (fun x => !x.1)) = true; rw [h2]; rfl⟩
theorem ix_plain {y : Expr} (h : noSlice y = true) : PlainIx y := fun o i => by
  cases y <;> first | rfl | cases h
theorem set_plain' {e : Expr} {env : Env} (h : noSet e = true) : ∀ x, foldedSetIterable e env x = pure x := fun x => by
  cases e <;> first | rfl | cases h
theorem base_plain {o : Expr} {name : Str} {env : Env} {whole : Sem Value} (h : noSuper o = true) : attributeBase o name env whole = whole := by
  cases o <;> first
    | rfl
    | (rename_i f args kws pos
       cases f <;> first
         | rfl
         | (cases args <;> first
             | rfl
             | (cases kws <;> first
                 | rfl
                 | exact absurd h Bool.false_ne_true)))
theorem tru_plain {e : Expr} {env : Env} (h : truE e = true) (whole : Sem Value) : isTrue e env whole = (do let v ← whole; standAt e.pos; holding [v] (truthy v)) := by
  cases e <;> first | rfl | cases h
theorem comp_swaps {e : Expr} {t : Option Expr} {l : Nat} {env : Env} (h : noComp e = true) : swapsWith e t l env = pure false := by
  cases e <;> first | rfl | cases h

theorem chkL_plain {c : Cfg} : ∀ {es : List E} {xs : List Expr}, chkL c es xs = true → xs.all plain = true
  | [], xs, h => by
    unfold chkL at h
    cases xs with
    | nil => rfl
    | cons _ _ => cases h
  | e :: es, xs, h => by
    unfold chkL at h
    split at h
    · simp only [Bool.and_eq_true] at h
      rw [List.all_cons, Bool.and_eq_true]
      exact ⟨h.1.1, chkL_plain h.2⟩
    · cases h

theorem ty_boot (t : Ty4) : bootBuiltins (Str.ofString t.nm) = some (.type t.nm) := by cases t <;> decide +kernel
theorem ty_ne (t : Ty4) : Str.ofString t.nm ≠ "__name__" ∧ (Str.ofString t.nm == ("__debug__" : Str)) = false := by cases t <;> decide +kernel
def Bi.val : Bi → Value
  | .abs => .builtin "abs" | .max => .builtin "max" | .min => .builtin "min" | .len => .builtin "len" | .sum => .builtin "sum" | .any => .builtin "any" | .all => .builtin "all" | .isi => .builtin "isinstance"
  | .int => .type "int" | .str => .type "str" | .tuple => .type "tuple"
theorem bi_boot (b : Bi) : bootBuiltins b.nm = some b.val := by cases b <;> decide +kernel
theorem bi_ne (b : Bi) : b.nm ≠ "__name__" ∧ (b.nm == ("__debug__" : Str)) = false := by cases b <;> decide +kernel
theorem biN_boot (b : BiN) : bootBuiltins b.nm = some (.type "list") := by cases b <;> decide +kernel
theorem biN_ne (b : BiN) : b.nm ≠ "__name__" ∧ (b.nm == ("__debug__" : Str)) = false := by cases b <;> decide +kernel
theorem names_ne : (("range" : Str) ≠ "__name__" ∧ (("range" : Str) == ("__debug__" : Str)) = false) := by decide +kernel
section
variable {B : Bx} {X : Cx} {k : Nat} {fp : Str → DSp → Prop} {cp : Str → D → Prop} {c : Cfg}
theorem bi_cal (ok : XOk B k fp cp c X) (b : Bi) : CalD B X b.val b.rd := by
  cases b with
  | abs => exact cal_abs
  | max => exact cal_max ok.calm
  | min => exact cal_min ok.calm
  | len => exact cal_len ok.K
  | sum => exact cal_sum ok.K ok.calm
  | any => exact cal_any ok.K ok.calm
  | all => exact cal_all ok.K ok.calm
  | isi => exact cal_isi ok.K
  | int => exact cal_int
  | str => exact cal_str
  | tuple => exact cal_tuple ok.K
theorem op_ok (ok : XOk B k fp cp c X) (o : Operator) : OpD B X (binaryOp o) (opR o) := by
  have none_ok : ∀ o, opR o = (fun _ _ _ _ => False) → OpD B X (binaryOp o) (opR o) := fun o e => by
    rw [e]
    exact ⟨fun _ _ _ _ => False, fun _ _ _ _ _ _ _ _ _ _ _ _ h => h.elim, fun _ _ _ _ _ _ _ _ _ _ _ _ _ _ h _ => h.elim⟩
  cases o with
  | Add => exact opd_add ok.K
  | Sub => exact opd_sub
  | Mult => exact opd_mul ok.K
  | FloorDiv => exact opd_div
  | Mod => exact opd_mod
  | Pow => exact opd_pow
  | RShift => exact opd_shr
  | _ => exact none_ok _ rfl
theorem opN_ok (o : Operator) : OpN B X (binaryOp o) (opN o) := by
  have none_ok : ∀ o, opN o = (fun _ _ _ _ => False) → OpN B X (binaryOp o) (opN o) := fun o e => by
    rw [e]
    exact ⟨fun _ _ _ _ => False, fun _ _ _ _ _ _ _ _ _ _ _ _ h => h.elim, fun _ _ _ _ _ _ _ _ _ _ _ _ _ _ h _ => h.elim⟩
  cases o with
  | Add => exact opn_cat
  | Mult => exact opn_rep
  | _ => exact none_ok _ rfl
theorem cmp_ok (ok : XOk B k fp cp c X) (o : CmpOp) : OpD B X (compareOp o) (cmpR o) := by
  have hu := ok.room.un
  cases o with
  | Eq => exact opd_eq ok.K (by omega)
  | NotEq => exact opd_ne ok.K (by omega)
  | Lt => exact opd_lt ok.K (by omega)
  | LtE => exact opd_le
  | Gt => exact opd_gt
  | GtE => exact opd_ge
  | Is => exact opd_is
  | IsNot => exact opd_isnt
  | In => exact opd_in ok.K (by omega)
  | NotIn => exact opd_notin ok.K (by omega)
theorem XOk.gl (ok : XOk B k fp cp c X) {x : Str} (h : c.gl x = true) : Gl X x := by
  show X.env.scope.names.lookup x = _
  rw [ok.sc]
  exact of_decide_eq_true h
theorem XOk.blt (ok : XOk B k fp cp c X) {x : Str} (h : c.blt x = true) : Gl X x ∧ X.mg x = none := by
  have h' : c.gl x = true ∧ c.bi.contains x = true := by simpa [Cfg.blt] using h
  exact ⟨ok.gl h'.1, ok.bi x h'.2⟩
theorem XOk.vis (ok : XOk B k fp cp c X) {i : Nat} {x : Str} {pos : Pos} (h : c.vis i x = true) : PE X (.Name x pos) (tVar i) := by
  unfold Cfg.vis at h
  simp only [Bool.and_eq_true, Bool.not_eq_true', decide_eq_true_eq] at h
  obtain ⟨⟨⟨h1, h2⟩, h3⟩, h4⟩ := h
  refine pe_var (by rw [ok.N]; exact h1) ?_ h3 h4
  show X.env.scope.names.lookup x = _ ∨ X.env.scope.names.lookup x = _ ∨ X.env.scope.names.lookup x = _
  rw [ok.sc]
  cases e : c.sc.names.lookup x with
  | none => rw [e] at h2; cases h2
  | some y =>
    rw [e] at h2
    cases y with
    | «local» => exact .inl rfl
    | cell => exact .inr (.inl rfl)
    | free => exact .inr (.inr rfl)
    | _ => cases h2
theorem XOk.loc (ok : XOk B k fp cp c X) {i : Nat} {x : Str} {pos : Pos} (h : c.loc i x = true) : PG X (.Name x pos) (gName i) := by
  unfold Cfg.loc at h
  simp only [Bool.and_eq_true, decide_eq_true_eq] at h
  obtain ⟨h1, h2⟩ := h
  have hl : X.env.scope.names.lookup x = c.sc.names.lookup x := by rw [ok.sc]
  cases e : c.sc.names.lookup x with
  | none => rw [e] at h2; cases h2
  | some y =>
    rw [e] at h2 hl
    cases y with
    | «local» => exact pg_name (by rw [ok.N]; exact ok.nd) (by rw [ok.N]; exact h1) (.inl hl) (.inr hl)
    | cell => exact pg_name (by rw [ok.N]; exact ok.nd) (by rw [ok.N]; exact h1) (.inr hl) (.inl (ok.fnv x (of_decide_eq_true h2)))
    | _ => cases h2
theorem chkGs_plain : ∀ {ts : List Tg} {es : List Expr}, chkGs c ts es = true → es.all plain = true ∧ es.length = ts.length
  | [], [], _ => ⟨rfl, rfl⟩
  | t :: ts, e :: es, h => by
    have h' : (chkG c t e = true ∧ plain e = true) ∧ chkGs c ts es = true := by simpa [chkGs] using h
    obtain ⟨a, b⟩ := chkGs_plain h'.2
    exact ⟨by rw [List.all_cons, h'.1.2, a]; rfl, by rw [List.length_cons, List.length_cons, b]⟩
  | [], _ :: _, h => by simp [chkGs] at h
  | _ :: _, [], h => by simp [chkGs] at h
theorem assigns_plain {env : Env} : ∀ {es : List Expr}, es.all plain = true → (assignEach es env).length = es.length ∧ (assignEach es env).findIdx? (·.1) = none
  | [], _ => ⟨rfl, rfl⟩
  | e :: es, h => by
    rw [List.all_cons, Bool.and_eq_true] at h
    obtain ⟨a, b⟩ := assigns_plain (env := env) h.2
    rw [assign_plain h.1]
    refine ⟨by rw [List.length_cons, List.length_cons, a], ?_⟩
    rw [List.findIdx?_cons, b]; rfl
mutual
theorem tg_ok (ok : XOk B k fp cp c X) : ∀ (t : Tg) {e : Expr}, chkG c t e = true → PG X e (t.v B.K)
  | .nm i, e, h => by
    cases e with
    | Name x pos => exact ok.loc h
    | _ => simp [chkG] at h
  | .tp ts, e, h => by
    cases e with
    | Tuple es q pos =>
      have h' : chkGs c ts es = true := by simpa [chkG] using h
      obtain ⟨a, b⟩ := chkGs_plain h'
      obtain ⟨l, f⟩ := assigns_plain (env := X.env) a
      rw [← ok.K]
      have := pg_tup (pos := pos) (k := q) ok.calm (tgs_ok ok ts h') (l.trans b) f
      rw [← ok.K] at this
      exact this
    | _ => simp [chkG] at h
theorem tgs_ok (ok : XOk B k fp cp c X) : ∀ (ts : List Tg) {es : List Expr}, chkGs c ts es = true → PGs X es (Tg.vs B.K ts)
  | [], [], _ => pgs_nil
  | t :: ts, e :: es, h => by
    have h' : (chkG c t e = true ∧ plain e = true) ∧ chkGs c ts es = true := by simpa [chkGs] using h
    exact pgs_cons (tg_ok ok t h'.1.1) (tgs_ok ok ts h'.2) (by rw [assign_plain h'.1.2]; rfl)
  | [], _ :: _, h => by simp [chkGs] at h
  | _ :: _, [], h => by simp [chkGs] at h
end
end
end DL

/-! DLm: the check is sound: expressions. -/
namespace DL
open PySem PySem.Spec PyProof.Rows L2
section
variable {B : Bx} {k : Nat} {fp : Str → DSp → Prop} {cp : Str → D → Prop}
theorem mt_ok {c : Cfg} {X : Cx} (ok : XOk B k fp cp c X) (b : Mt) : ∃ id, PlainAttrs b.ty ∧ Slot b.ty b.nm id ∧ typeOf (.builtin id) = pure (.type "method_descriptor") ∧ MetD B X id b.rd := by
  cases b with
  | append => exact ⟨_, PySem.F.plainAttrs_list, PySem.F.slot_list_append, PySem.F.type_list_append, met_append⟩
  | pop => exact ⟨_, PySem.F.plainAttrs_list, PySem.F.slot_list_pop, PySem.F.type_list_pop, met_pop⟩
  | popAt => exact ⟨_, PySem.F.plainAttrs_list, PySem.F.slot_list_pop, PySem.F.type_list_pop, met_popAt⟩
  | clear => exact ⟨_, PySem.F.plainAttrs_list, PySem.F.slot_list_clear, PySem.F.type_list_clear, met_clear⟩
  | count => exact ⟨_, PySem.F.plainAttrs_list, PySem.F.slot_list_count, PySem.F.type_list_count, met_count ok.K⟩
  | index => exact ⟨_, PySem.F.plainAttrs_list, PySem.F.slot_list_index, PySem.F.type_list_index, met_index ok.K⟩
  | extend => exact ⟨_, PySem.F.plainAttrs_list, PySem.F.slot_list_extend, PySem.F.type_list_extend, met_extend ok.K⟩
theorem mtT_ok {c : Cfg} {X : Cx} (ok : XOk B k fp cp c X) (b : MtT) : ∃ id, Slot "tuple" b.nm id ∧ typeOf (.builtin id) = pure (.type "method_descriptor") ∧ MetD B X id b.rd := by
  cases b with
  | count => exact ⟨_, PySem.F.slot_tuple_count, PySem.F.type_tuple_count, met_countT ok.K⟩
  | index => exact ⟨_, PySem.F.slot_tuple_index, PySem.F.type_tuple_index, met_indexT ok.K⟩
theorem XOk.blk {c : Cfg} {X : Cx} (ok : XOk B k fp cp c X) (scope : Scope) (s : Shared) (H : Hp) (C : Addr) (cl : List (Str × Addr)) (fps : List Addr) :
    XOk B k fp cp (c.blk scope) (X.blk s H scope (compEnvC scope cl C X.env) fps) where
  K := ok.K
  mg := ok.mg
  N := ok.N
  nd := ok.nd
  sc := by
    have e : (compEnvC scope cl C X.env).scope = relS scope X.env.scope := rfl
    show (compEnvC scope cl C X.env).scope = relS scope c.sc
    rw [e, ok.sc]
  fnv := fun x h => by
    show (scope.names.lookup x == some .cell) = true
    have h' : scope.names.lookup x = some .cell := h
    rw [h']; rfl
  calm := ok.calm
  room := ok.room
  bi := ok.bi
  po := PassesOwn.never
  fns := ok.fns
  cons := ok.cons
theorem boot_rng : bootBuiltins ("range" : Str) = some (.type "range") := by decide +kernel
theorem lit_ok {X : Cx} {d : D} {q : Const} {j : Nat} {pos : Pos} (h : litOk d q = true) : PE X (.Constant q j pos) (liftE B (dLit d)) := by
  cases d with
  | int i =>
    cases q with
    | int j =>
      have e : i = j := by simpa [litOk] using h
      subst e
      exact de_lit pe_int fun F m => .int _
    | _ => simp [litOk] at h
  | bl b =>
    cases q with
    | bool j =>
      have e : b = j := by simpa [litOk] using h
      subst e
      exact de_lit pe_bl fun F m => .bl _
    | _ => simp [litOk] at h
  | non =>
    cases q with
    | none => exact de_lit pe_non fun F m => .non
    | _ => simp [litOk] at h
  | str x =>
    cases q with
    | str y =>
      have e : x = y := by simpa [litOk] using h
      subst e
      exact de_lit pe_str fun F m => .str _
    | _ => simp [litOk] at h
  | _ => cases q <;> simp [litOk] at h
def isBool : Expr → Bool
  | .BoolOp .. => true
  | _ => false
mutual
theorem chk_ok : ∀ (e : E) {c : Cfg} {X : Cx} {x : Expr}, XOk B k fp cp c X → us fp cp e → chk c e x = true → PE X x (liftE B (sem e))
  | .var i, c, X, x, ok, u, h => by
    unfold chk at h
    split at h
    · exact de_var (ok.vis h)
    · cases h
  | .lit d, c, X, x, ok, u, h => by
    unfold chk at h
    split at h
    · exact lit_ok h
    · cases h
  | .tyc t, c, X, x, ok, u, h => by
    unfold chk at h
    split at h
    · simp only [Bool.and_eq_true, beq_iff_eq] at h
      obtain ⟨h1, rfl⟩ := h
      obtain ⟨g, m⟩ := ok.blt h1
      exact de_lit (pe_bltn (v := .ty t.nm) g m (ty_boot t) rfl (ty_ne t).1 (ty_ne t).2) fun F m => .ty _
    · cases h
  | .con y d, c, X, x, ok, u, h => by
    unfold chk at h
    split at h
    · simp only [Bool.and_eq_true, beq_iff_eq, Bool.not_eq_true'] at h
      obtain ⟨⟨h1, rfl⟩, h3⟩ := h
      obtain ⟨w, v, hm, r, hr⟩ := ok.cons _ _ u
      exact de_lit (pe_glob (ok.gl h1) (by rw [ok.mg]; exact hm) r h3) hr
    · cases h
  | .op o a b, c, X, x, ok, u, h => by
    unfold chk at h
    split at h
    · simp only [Bool.and_eq_true, decide_eq_true_eq] at h
      obtain ⟨⟨rfl, h2⟩, h3⟩ := h
      exact de_op (op_ok ok _) (chk_ok a ok u.1 h2) (chk_ok b ok u.2 h3)
    · cases h
  | .neg a, c, X, x, ok, u, h => by
    unfold chk at h
    split at h
    · exact de_neg (chk_ok a ok u h)
    · cases h
  | .cmp o a b, c, X, x, ok, u, h => by
    unfold chk at h
    split at h
    · simp only [Bool.and_eq_true, decide_eq_true_eq, Bool.not_eq_true'] at h
      obtain ⟨⟨⟨rfl, h1⟩, h2⟩, h3⟩ := h
      exact de_cmp (cmp_ok ok _) h1 (chk_ok a ok u.1 h2) (chk_ok b ok u.2 h3)
    · cases h
  | .chain o p a b d, c, X, x, ok, u, h => by
    unfold chk at h
    split at h
    · simp only [Bool.and_eq_true, decide_eq_true_eq, Bool.not_eq_true'] at h
      obtain ⟨⟨⟨⟨⟨rfl, rfl⟩, h1⟩, h2⟩, h3⟩, h4⟩ := h
      exact de_chain (cmp_ok ok _) (cmp_ok ok _) (chk_ok a ok u.1 h2) (chk_ok b ok u.2.1 h3) (chk_ok d ok u.2.2 h4) fun r r' ta tb tc k1 k2 ha hb hc => pe_chain k1 k2 ha hb hc h1
    · cases h
  | .nt a, c, X, x, ok, u, h => by
    unfold chk at h
    split at h
    · exact de_not (chk_ok a ok u h)
    · cases h
  | .and a b, c, X, x, ok, u, h => by
    unfold chk at h
    split at h
    · simp only [Bool.and_eq_true] at h
      exact de_and (chk_ok a ok u.1 h.1) (pe_one (chk_ok b ok u.2 h.2))
    · simp only [Bool.and_eq_true] at h
      exact de_and (chk_ok a ok u.1 h.1) (chk_ok b ok u.2 h.2)
    · cases h
  | .or a b, c, X, x, ok, u, h => by
    unfold chk at h
    split at h
    · simp only [Bool.and_eq_true] at h
      exact de_or (chk_ok a ok u.1 h.1) (pe_one (chk_ok b ok u.2 h.2))
    · simp only [Bool.and_eq_true] at h
      exact de_or (chk_ok a ok u.1 h.1) (chk_ok b ok u.2 h.2)
    · cases h
  | .tup es, c, X, x, ok, u, h => by
    unfold chk at h
    split at h
    · exact de_tup (chkL_ok es ok u h)
    · cases h
  | .mk true n, c, X, x, ok, u, h => by
    unfold chk at h
    exact de_own (chkN_ok n ok u h)
  | .mk false n, c, X, x, ok, u, h => by
    unfold chk at h
    exact de_frz (chkN_ok n ok u h)
  | .sub a i, c, X, x, ok, u, h => by
    unfold chk at h
    split at h
    · simp only [Bool.and_eq_true] at h
      exact de_ix ok.K (chk_ok a ok u.1 h.1.2) (chk_ok i ok u.2 h.2) (ix_plain h.1.1)
    · cases h
  | .slc a lo hi, c, X, x, ok, u, h => by
    unfold chk at h
    split at h
    · simp only [Bool.and_eq_true] at h
      exact de_slice ok.K (chk_ok a ok u.1 h.1.1) (chkO_ok lo ok u.2.1 h.1.2) (chkO_ok hi ok u.2.2 h.2)
    · cases h
  | .bi b es, c, X, x, ok, u, h => by
    unfold chk at h
    split at h
    · simp only [Bool.and_eq_true, beq_iff_eq] at h
      obtain ⟨⟨h1, rfl⟩, h2⟩ := h
      obtain ⟨g, m⟩ := ok.blt h1
      have hp := chkL_plain h2
      rw [List.all_cons, Bool.and_eq_true] at hp
      have cal := bi_cal ok b
      have bo := bi_boot b
      have l := chkL_ok es ok u h2
      cases b <;> first
        | exact de_callB cal g m bo l (bi_ne _).1 (bi_ne _).2 (star_plain hp.1) (stars_plain hp.2).1
        | exact de_callTy cal g m bo l (bi_ne _).1 (bi_ne _).2 (star_plain hp.1) (stars_plain hp.2).1
    · cases h
  | .met b o es, c, X, x, ok, u, h => by
    unfold chk at h
    split at h
    · rename_i o' f ap xs cp'
      simp only [Bool.and_eq_true, beq_iff_eq, decide_eq_true_eq] at h
      obtain ⟨⟨⟨⟨⟨⟨rfl, h2⟩, h3⟩, h4⟩, h5⟩, h6⟩, h7⟩ := h
      obtain ⟨id, pa, sl, ty, md⟩ := mt_ok ok b
      have hline : (ap.endLine == cp'.line) = true := by simpa using h3
      cases xs with
      | nil =>
        cases es with
        | nil => exact de_bm0 ok.K pa sl ty md (chk_ok o ok u.1 h6) (base_plain h2) hline
        | cons _ _ => simp [chkL] at h7
      | cons y ys =>
        have hp := chkL_plain h7
        obtain ⟨s1, s2⟩ := stars_plain (pos := cp') (env := X.env) hp
        rw [List.all_cons, Bool.and_eq_true] at hp
        refine de_bm ok.K pa sl ty md (chk_ok o ok u.1 h6) (chkL_ok es ok u.2 h7) (base_plain h2) ?_ hline (star_plain hp.1) (stars_plain hp.2).1
        rw [s2]
        have e : backToKw cp' (keywordEach [] X.env) = [] := rfl
        rw [e]
        show (true && true && decide ((y :: ys).length + 0 + 0 < 30)) = true
        simpa using h5
    · cases h
  | .call g sp es, c, X, x, ok, u, h => by
    unfold chk at h
    split at h
    · simp only [Bool.and_eq_true, beq_iff_eq, Bool.not_eq_true'] at h
      obtain ⟨⟨⟨h1, rfl⟩, h3⟩, h2⟩ := h
      have hp := chkL_plain h2
      rw [List.all_cons, Bool.and_eq_true] at hp
      obtain ⟨fa, fd, ps, F, hm, hk, hb⟩ := ok.fns _ _ u.1
      exact de_call ok.K ok.mg (by rw [ok.K, ok.mg]; exact F) ok.room (ok.gl h1) (by rw [ok.mg]; exact hm) (by rw [ok.K]; exact hk) (by rw [ok.K]; exact hb) (chkL_ok es ok u.2 h2) h3 (star_plain hp.1) (stars_plain hp.2).1
    · cases h
  | .mtT b o es, c, X, x, ok, u, h => by
    unfold chk at h
    split at h
    · rename_i o' f ap y xs cp'
      simp only [Bool.and_eq_true, beq_iff_eq, decide_eq_true_eq] at h
      obtain ⟨⟨⟨⟨⟨rfl, h2⟩, h3⟩, h5⟩, h6⟩, h7⟩ := h
      obtain ⟨id, sl, ty, md⟩ := mtT_ok ok b
      have hline : (ap.endLine == cp'.line) = true := by simpa using h3
      have hp := chkL_plain h7
      obtain ⟨s1, s2⟩ := stars_plain (pos := cp') (env := X.env) hp
      rw [List.all_cons, Bool.and_eq_true] at hp
      refine de_bt ok.K sl ty md (chk_ok o ok u.1 h6) (chkL_ok es ok u.2 h7) (base_plain h2) ?_ hline (star_plain hp.1) (stars_plain hp.2).1
      rw [s2]
      have e : backToKw cp' (keywordEach [] X.env) = [] := rfl
      rw [e]
      show (true && true && decide ((y :: xs).length + 0 + 0 < 30)) = true
      simp only [List.length_cons]
      simpa using (by omega : xs.length + 1 < 30)
    · cases h
  | .revT a, c, X, x, ok, u, h => by
    unfold chk at h
    split at h
    · exact de_revT ok.K (chk_ok a ok u h)
    · cases h
  | .lenS a, c, X, x, ok, u, h => by
    unfold chk at h
    split at h
    · simp only [Bool.and_eq_true, beq_iff_eq] at h
      obtain ⟨⟨⟨⟨⟨h1, rfl⟩, h2⟩, rfl⟩, h3⟩, h4⟩ := h
      exact de_lenSet ok.K (ok.blt h1).1 (ok.blt h1).2 (ok.blt h2).1 (ok.blt h2).2 (chk_ok a ok u h4) ok.calm (star_plain h3)
    · cases h
  | .dct0, c, X, x, ok, u, h => by
    unfold chk at h
    split at h
    · exact de_dct0
    · cases h
  | .dct1 i j, c, X, x, ok, u, h => by
    unfold chk at h
    split at h
    · exact de_dct1 pe_int pe_int
    · cases h
theorem chkT_ok : ∀ (e : T) {c : Cfg} {X : Cx} {x : Expr}, XOk B k fp cp c X → usT fp cp e → chkT c e x = true → PT X x (liftT B (semT e)) ∧ (isBool x = true → PW X x (liftT B (semT e)))
  | .tru e, c, X, x, ok, u, h => by
    unfold chkT at h
    simp only [Bool.and_eq_true] at h
    refine ⟨dt_tru ok.K (chk_ok e ok u h.2) (tru_plain h.1), fun z => ?_⟩
    cases x <;> first | exact absurd z Bool.false_ne_true | exact absurd h.1 Bool.false_ne_true
  | .cmp o a b, c, X, x, ok, u, h => by
    unfold chkT at h
    split at h
    · simp only [Bool.and_eq_true, decide_eq_true_eq, Bool.not_eq_true'] at h
      obtain ⟨⟨⟨rfl, h1⟩, h2⟩, h3⟩ := h
      exact ⟨dt_cmp (cmp_ok ok _) h1 (chk_ok a ok u.1 h2) (chk_ok b ok u.2 h3), fun z => absurd z Bool.false_ne_true⟩
    · cases h
  | .chain o p a b d, c, X, x, ok, u, h => by
    unfold chkT at h
    split at h
    · simp only [Bool.and_eq_true, decide_eq_true_eq, Bool.not_eq_true'] at h
      obtain ⟨⟨⟨⟨⟨rfl, rfl⟩, h1⟩, h2⟩, h3⟩, h4⟩ := h
      exact ⟨dt_chain (cmp_ok ok _) (cmp_ok ok _) (chk_ok a ok u.1 h2) (chk_ok b ok u.2.1 h3) (chk_ok d ok u.2.2 h4) fun r r' ta tb tc k1 k2 ha hb hc => pt_chain k1 k2 ha hb hc h1, fun z => absurd z Bool.false_ne_true⟩
    · cases h
  | .nt a, c, X, x, ok, u, h => by
    unfold chkT at h
    split at h
    · exact ⟨dt_not (chkT_ok a ok u h).1, fun z => absurd z Bool.false_ne_true⟩
    · cases h
  | .and a b, c, X, x, ok, u, h => by
    have go : PW X x (liftT B (semT (.and a b))) := by
      unfold chkT at h
      split at h
      · simp only [Bool.and_eq_true] at h
        exact dw_and (chkT_ok a ok u.1 h.1).1 (dw_and1 (chkT_ok b ok u.2 h.2).1)
      · simp only [Bool.and_eq_true] at h
        exact dw_and (chkT_ok a ok u.1 h.1).1 ((chkT_ok b ok u.2 h.2).2 rfl)
      · cases h
    exact ⟨go.pt, fun _ => go⟩
  | .or a b, c, X, x, ok, u, h => by
    have go : PW X x (liftT B (semT (.or a b))) := by
      unfold chkT at h
      split at h
      · simp only [Bool.and_eq_true] at h
        exact dw_or (chkT_ok a ok u.1 h.1).1 (dw_or1 (chkT_ok b ok u.2 h.2).1)
      · simp only [Bool.and_eq_true] at h
        exact dw_or (chkT_ok a ok u.1 h.1).1 ((chkT_ok b ok u.2 h.2).2 rfl)
      · cases h
    exact ⟨go.pt, fun _ => go⟩
theorem chkN_ok : ∀ (e : Nw) {c : Cfg} {X : Cx} {x : Expr}, XOk B k fp cp c X → usN fp cp e → chkN c e x = true → PE X x (liftN B (semN e))
  | .lst es, c, X, x, ok, u, h => by
    unfold chkN at h
    split at h
    · exact dn_lst (chkL_ok es ok u h)
    · cases h
  | .op o a b, c, X, x, ok, u, h => by
    unfold chkN at h
    split at h
    · simp only [Bool.and_eq_true, decide_eq_true_eq] at h
      obtain ⟨⟨rfl, h2⟩, h3⟩ := h
      exact dn_op (opN_ok _) (chk_ok a ok u.1 h2) (chk_ok b ok u.2 h3)
    · cases h
  | .slc a lo hi, c, X, x, ok, u, h => by
    unfold chkN at h
    split at h
    · simp only [Bool.and_eq_true] at h
      exact dn_slice ok.K (chk_ok a ok u.1 h.1.1) (chkO_ok lo ok u.2.1 h.1.2) (chkO_ok hi ok u.2.2 h.2)
    · cases h
  | .bi b es, c, X, x, ok, u, h => by
    unfold chkN at h
    split at h
    · simp only [Bool.and_eq_true, beq_iff_eq] at h
      obtain ⟨⟨h1, rfl⟩, h2⟩ := h
      obtain ⟨g, m⟩ := ok.blt h1
      have hp := chkL_plain h2
      rw [List.all_cons, Bool.and_eq_true] at hp
      have cal : CalN B X (.type "list") b.rd := by cases b; exact cal_list ok.K
      exact dn_callTy (rN := b.rd) (tes := semL es) cal g m (biN_boot b) (chkL_ok es ok u h2) (biN_ne b).1 (biN_ne b).2 (star_plain hp.1) (stars_plain hp.2).1
    · cases h
  | .lc own t it oc e, c, X, x, ok, u, h => by
    unfold chkN at h
    split at h
    · simp only [Bool.and_eq_true] at h
      obtain ⟨⟨⟨⟨⟨⟨h1, h2⟩, h3⟩, h4⟩, h5⟩, h6⟩, h7⟩ := h
      exact dn_lc ok.K ok.calm (by rw [ok.N]; exact ok.nd) (chkI_ok it ok u.1 h2) (by rw [ok.N, ok.sc]; exact blkOk_by h3) h4 (fun s H C cl f => tg_ok (ok.blk _ s H C cl f) t h5)
        (fun s H C cl f => chkC_ok oc (ok.blk _ s H C cl f) u.2.1 h6) (fun s H C cl f => chk_ok e (ok.blk _ s H C cl f) u.2.2 h7) (set_plain' h1)
    · cases h
  | .revL a, c, X, x, ok, u, h => by
    unfold chkN at h
    split at h
    · exact dn_revL ok.K (chk_ok a ok u h)
    · cases h
  | .lr1 a, c, X, x, ok, u, h => by
    unfold chkN at h
    split at h
    · simp only [Bool.and_eq_true, beq_iff_eq] at h
      obtain ⟨⟨⟨⟨⟨h1, rfl⟩, h2⟩, rfl⟩, h3⟩, h4⟩ := h
      exact dn_lr1 ok.calm (ok.blt h1).1 (ok.blt h1).2 (ok.blt h2).1 (ok.blt h2).2 (chk_ok a ok u h4) (star_plain h3) rfl
    · cases h
  | .lr2 a b, c, X, x, ok, u, h => by
    unfold chkN at h
    split at h
    · simp only [Bool.and_eq_true, beq_iff_eq] at h
      obtain ⟨⟨⟨⟨⟨⟨⟨h1, rfl⟩, h2⟩, rfl⟩, h3⟩, h4⟩, h5⟩, h6⟩ := h
      exact dn_lr2 ok.calm (ok.blt h1).1 (ok.blt h1).2 (ok.blt h2).1 (ok.blt h2).2 (chk_ok a ok u.1 h5) (chk_ok b ok u.2 h6) (star_plain h3) (star_plain h4) (by rw [star_plain h4]; rfl) rfl
    · cases h
theorem chkI_ok : ∀ (e : Ir) {c : Cfg} {X : Cx} {tg x : Expr}, XOk B k fp cp c X → usI fp cp e → chkI c e tg x = true → PI X tg x (liftI B (semI e))
  | .seq e, c, X, tg, x, ok, u, h => by
    unfold chkI at h
    exact di_seq ok.K (chk_ok e ok u h)
  | .rng1 e, c, X, tg, x, ok, u, h => by
    unfold chkI at h
    split at h
    · simp only [Bool.and_eq_true, beq_iff_eq] at h
      obtain ⟨⟨⟨h1, rfl⟩, h2⟩, h3⟩ := h
      obtain ⟨g, m⟩ := ok.blt h1
      exact di_range1 g m (chk_ok e ok u h3) (star_plain h2)
    · cases h
  | .rng2 a b, c, X, tg, x, ok, u, h => by
    unfold chkI at h
    split at h
    · simp only [Bool.and_eq_true, beq_iff_eq] at h
      obtain ⟨⟨⟨⟨⟨h1, rfl⟩, h2⟩, h3⟩, h4⟩, h5⟩ := h
      obtain ⟨g, m⟩ := ok.blt h1
      exact di_range2 g m (chk_ok a ok u.1 h4) (chk_ok b ok u.2 h5) (by rw [star_plain h2, star_plain h3]; rfl) (star_plain h3)
    · cases h
  | .zip a b, c, X, tg, x, ok, u, h => by
    unfold chkI at h
    split at h
    · simp only [Bool.and_eq_true, beq_iff_eq] at h
      obtain ⟨⟨⟨⟨⟨h1, rfl⟩, h2⟩, h3⟩, h4⟩, h5⟩ := h
      obtain ⟨g, m⟩ := ok.blt h1
      exact di_zip ok.K g m (chk_ok a ok u.1 h4) (chk_ok b ok u.2 h5) (star_plain h2) (star_plain h3) (stars_plain (by rw [List.all_cons, h3]; rfl)).1
    · cases h
  | .enum e, c, X, tg, x, ok, u, h => by
    unfold chkI at h
    split at h
    · simp only [Bool.and_eq_true, beq_iff_eq] at h
      obtain ⟨⟨⟨h1, rfl⟩, h2⟩, h3⟩ := h
      obtain ⟨g, m⟩ := ok.blt h1
      exact di_enum ok.K g m (chk_ok e ok u h3) (star_plain h2)
    · cases h
  | .rev e, c, X, tg, x, ok, u, h => by
    unfold chkI at h
    split at h
    · simp only [Bool.and_eq_true, beq_iff_eq] at h
      obtain ⟨⟨⟨h1, rfl⟩, h2⟩, h3⟩ := h
      obtain ⟨g, m⟩ := ok.blt h1
      exact di_rev ok.K g m (chk_ok e ok u h3) (star_plain h2)
    · cases h
theorem chkL_ok : ∀ (es : List E) {c : Cfg} {X : Cx} {xs : List Expr}, XOk B k fp cp c X → usL fp cp es → chkL c es xs = true → PA X xs (liftA B (semL es))
  | [], c, X, xs, ok, u, h => by
    unfold chkL at h
    cases xs with
    | nil => exact da_nil
    | cons _ _ => cases h
  | e :: es, c, X, xs, ok, u, h => by
    unfold chkL at h
    split at h
    · simp only [Bool.and_eq_true] at h
      exact da_cons (chk_ok e ok u.1 h.1.2) (chkL_ok es ok u.2 h.2) (star_plain h.1.1)
    · cases h
theorem chkO_ok : ∀ (o : Option E) {c : Cfg} {X : Cx} {x : Option Expr}, XOk B k fp cp c X → usO fp cp o → chkO c o x = true → PO X x (liftO B (semO o))
  | none, c, X, x, ok, u, h => by
    unfold chkO at h
    cases x with
    | none => exact do_none
    | some _ => cases h
  | some e, c, X, x, ok, u, h => by
    unfold chkO at h
    split at h
    · exact do_some (chk_ok e ok u h)
    · cases h
theorem chkC_ok : ∀ (o : Option T) {c : Cfg} {X : Cx} {xs : List Expr}, XOk B k fp cp c X → usC fp cp o → chkC c o xs = true → PTs X xs (liftT B (semC o))
  | none, c, X, xs, ok, u, h => by
    unfold chkC at h
    cases xs with
    | nil => exact dts_nil
    | cons _ _ => cases h
  | some t, c, X, xs, ok, u, h => by
    unfold chkC at h
    split at h
    · exact dts_one (chkT_ok t ok u h).1
    · cases h
end
end
end DL

/-! DLn: statements and defs. -/
namespace DL
open PySem PySem.Spec PyProof.Rows L2

inductive S where
  | asg (t : Tg) (e : E) | lcs (i : Nat) (own : Bool) (n : Nw) | par (i j : Nat) (a b : E) | setIx (e o i : E)
  | ex (e : E) | ret (e : E) | retN | iff (c : T) (a b : List S) | whl (c : T) (b : List S) | forr (t : Tg) (it : Ir) (b : List S) | pass | brk | cont
mutual
def semS : S → DTS
  | .asg t e => dAsg (sem e) t
  | .lcs i o n => dAsg (sem (.mk o n)) (.nm i)
  | .par i j a b => dPar i j (sem a) (sem b)
  | .setIx e o i => dSetIx (sem e) (sem o) (sem i)
  | .ex e => dDrop (sem e)
  | .ret e => dRet (sem e)
  | .retN => dRetN
  | .iff c a b => dIf (semT c) (semB a) (semB b)
  | .whl c b => dWhile (semT c) (semB b)
  | .forr t it b => dFor (semI it) t (semB b)
  | .pass => dNext
  | .brk => dBreak
  | .cont => dCont
def semB : List S → DTS
  | [] => dNext
  | s :: r => dSeqS (semS s) (semB r)
end
def swN : Expr → Expr → Bool
  | .Tuple .., .Tuple vs _ _ => vs.all (foldedForSure 8)
  | .List .., .Tuple .. => false
  | _, _ => true
def asgOk (c : Cfg) (tg v : Expr) : Bool := plain tg && swN tg v && (noComp v || (match tg with
  | .Name x _ => !decide (c.sc.names.lookup x = some .local)
  | _ => true))
def lcsOk (c : Cfg) (i : Nat) (y : Str) (py : Pos) (v : Expr) : Bool := match v with
  | .ListComp _ _ scope _ => decide (c.N[i]? = some y) && decide (c.sc.names.lookup y = some .local) && (py.line == v.pos.line) && !(scope.names.any fun (n, k) => n == y && (k == .local || k == .cell))
  | _ => false
def parOk (c : Cfg) (i j : Nat) (x y : Str) (px py : Pos) (a b : Expr) : Bool :=
  decide (c.N[i]? = some x) && decide (c.N[j]? = some y) && decide (i ≠ j) && decide (c.sc.names.lookup x = some .local) && decide (c.sc.names.lookup y = some .local) && (px.line == py.line) && plain a && plain b &&
    !([a, b].all (foldedForSure 8)) && !([a, b].all (constantsAlone 8)) && ([x, y].eraseDups.length == 2)
mutual
def chkS (c : Cfg) : S → Stmt → Bool
  | .asg t e, s => match s with
    | .Assign [tg] v _ => asgOk c tg v && chkG c t tg && chk c e v
    | _ => false
  | .lcs i _ n, s => match s with
    | .Assign [.Name y py] v _ => lcsOk c i y py v && chkN c n v
    | _ => false
  | .par i j a b, s => match s with
    | .Assign [.Tuple [.Name x px, .Name y py] _ _] (.Tuple [u, v] _ _) _ => parOk c i j x y px py u v && chk c a u && chk c b v
    | _ => false
  | .setIx e o i, s => match s with
    | .Assign [.Subscript x y _] v _ => noSlice y && chk c e v && chk c o x && chk c i y
    | _ => false
  | .ex e, s => match s with
    | .Expr v _ => noComp v && chk c e v
    | _ => false
  | .ret e, s => match s with
    | .Return (some v) _ => chk c e v
    | _ => false
  | .retN, s => match s with
    | .Return none _ => true
    | _ => false
  | .iff t a b, s => match s with
    | .If x y z _ => chkT c t x && chkB c a y && chkB c b z
    | _ => false
  | .whl t b, s => match s with
    | .While x y [] _ => chkT c t x && chkB c b y
    | _ => false
  | .forr t it b, s => match s with
    | .For tg x y [] _ => noSet x && chkG c t tg && chkI c it tg x && chkB c b y
    | _ => false
  | .pass, s => match s with
    | .Pass _ => true
    | _ => false
  | .brk, s => match s with
    | .Break _ => true
    | _ => false
  | .cont, s => match s with
    | .Continue _ => true
    | _ => false
def chkB (c : Cfg) : List S → List Stmt → Bool
  | [], ss => ss.isEmpty
  | s :: r, ss => match ss with
    | x :: xs => chkS c s x && chkB c r xs
    | [] => false
end
mutual
def usS (fp : Str → DSp → Prop) (cp : Str → D → Prop) : S → Prop
  | .asg _ e => us fp cp e
  | .lcs _ _ n => usN fp cp n
  | .par _ _ a b => us fp cp a ∧ us fp cp b
  | .setIx e o i => us fp cp e ∧ us fp cp o ∧ us fp cp i
  | .ex e => us fp cp e
  | .ret e => us fp cp e
  | .retN => True
  | .iff t a b => usT fp cp t ∧ usB fp cp a ∧ usB fp cp b
  | .whl t b => usT fp cp t ∧ usB fp cp b
  | .forr _ it b => usI fp cp it ∧ usB fp cp b
  | .pass => True
  | .brk => True
  | .cont => True
def usB (fp : Str → DSp → Prop) (cp : Str → D → Prop) : List S → Prop
  | [] => True
  | s :: r => usS fp cp s ∧ usB fp cp r
end
section
variable {B : Bx} {k : Nat} {fp : Str → DSp → Prop} {cp : Str → D → Prop} {c : Cfg} {X : Cx}
theorem kind_of (ok : XOk B k fp cp c X) (h : c.sc.kind = .function) : X.env.blockKind = .function := by
  unfold Env.blockKind
  rw [ok.sc, h]; rfl
theorem stores_none {tg v : Expr} {env : Env} (h : swN tg v = true) : swappedStores [tg] v env = pure none := by
  cases tg <;> first
    | rfl
    | (cases v <;> first
        | rfl
        | exact absurd h Bool.false_ne_true
        | (rename_i ts kt pt vs kv pv
           have h' : vs.all (foldedForSure 8) = true := h
           unfold swappedStores
           simp only [pure_bind]
           split
           · rfl
           · split
             · rfl
             · split
               · rfl
               · first | rfl | rw [if_pos h']))
theorem sole_none (ok : XOk B k fp cp c X) {tg v : Expr} {l : Nat} (h : (noComp v || (match tg with
  | .Name x _ => !decide (c.sc.names.lookup x = some .local)
  | _ => true)) = true) : swapsWithSole [tg] v l X.env = pure false := by
  show swapsWith v (some tg) l X.env = pure false
  by_cases hv : noComp v = true
  · exact comp_swaps hv
  · rw [Bool.eq_false_iff.mpr hv, Bool.false_or] at h
    have key : ∀ (sc : Scope) (x : Str) (p : Pos), (!decide (c.sc.names.lookup x = some .local)) = true → (X.env.blockKind == .function && X.env.kindOf x == some .local && p.line == v.pos.line && !(sc.names.any fun (n, k) => n == x && (k == .local || k == .cell))) = false := fun sc x p hx => by
      have e : X.env.kindOf x ≠ some .local := by
        show X.env.scope.names.lookup x ≠ _
        rw [ok.sc]
        simpa using hx
      have e2 : (X.env.kindOf x == some .local) = false := by simpa using e
      rw [e2]; simp
    cases v <;> first
      | rfl
      | (cases tg <;> first
          | rfl
          | (unfold swapsWith
             simp only [pure_bind]
             rw [key _ _ _ h]))
theorem subs_plain {o i : Expr} {tpos : Pos} {env : Env} (h : noSlice i = true) : ∀ v, assign (.Subscript o i tpos) env v = (do
      let ov ← holding [v] (eval o env)
      let iv ← holding [v, ov] (eval i env)
      standAt tpos
      holding [v, ov, iv] (setItem ov iv v)
      release [v, ov, iv] []) := fun v => by
  cases i <;> first | rfl | cases h
theorem par_stores {env : Env} {x y : Str} {px py pt : Pos} {kt k2 : Nat} {pt2 : Pos} {a b : Expr} (hk : env.blockKind = .function) (hx : env.kindOf x = some .local) (hy : env.kindOf y = some .local) (hl : (px.line == py.line) = true)
    (ha : plain a = true) (hb : plain b = true) (h1 : [a, b].all (foldedForSure 8) = false) (h2 : [a, b].all (constantsAlone 8) = false) (hd : ([x, y].eraseDups.length == 2) = true) :
    swappedStores [.Tuple [.Name x px, .Name y py] kt pt] (.Tuple [a, b] k2 pt2) env = pure (some [x, y]) := by
  have e1 : ([a, b].any fun | .Starred .. => true | _ => false) = false := by
    have : ∀ e, plain e = true → (match e with | .Starred .. => true | _ => false) = false := fun e h => by cases e <;> first | rfl | cases h
    simp only [List.any_cons, List.any_nil, this a ha, this b hb]
    rfl
  have hl' : (py.line == px.line) = true := by
    have := beq_iff_eq.mp hl
    rw [this]; simp
  have g1 : (env.kindOf x == some NameKind.local) = true := by rw [hx]; simp
  have g2 : (env.kindOf y == some NameKind.local) = true := by rw [hy]; simp
  have g3 : (Expr.Name x px).pos.line = px.line := rfl
  have p1 : ∀ e, plain e = true → ¬ (match e with | .Starred .. => true | _ => false) = true := fun e h => by cases e <;> first | exact Bool.false_ne_true | cases h
  have f1 : ¬ (foldedForSure 8 a = true ∧ foldedForSure 8 b = true) := fun h => by simp [h.1, h.2] at h1
  have f2 : ¬ (constantsAlone 8 a = true ∧ constantsAlone 8 b = true) := fun h => by simp [h.1, h.2] at h2
  have hd' : [x, y].eraseDups.length = 2 := by simpa using hd
  unfold swappedStores
  simp [hk, g1, g2, g3, beq_iff_eq.mp hl]
  rw [if_neg (fun h => h.elim (p1 a ha) (p1 b hb))]
  simp [List.filterMap, hx, hy, beq_iff_eq.mp hl, f1, f2, hd']
theorem lcs_swaps (ok : XOk B k fp cp c X) (hk : c.sc.kind = .function) {i : Nat} {y : Str} {py : Pos} {v : Expr} {l : Nat} (h : lcsOk c i y py v = true) : swapsWith v (some (.Name y py)) l X.env = pure true := by
  unfold lcsOk at h
  split at h
  · simp only [Bool.and_eq_true, decide_eq_true_eq, Bool.not_eq_true'] at h
    obtain ⟨⟨⟨h1, h2⟩, h3⟩, h4⟩ := h
    exact sw_true (by rw [ok.sc]; exact hk) (by rw [ok.sc]; exact h2) h3 h4
  · cases h
mutual
theorem chkS_ok (ok : XOk B k fp cp c X) (hk : c.sc.kind = .function) : ∀ (s : S) {st : Stmt}, usS fp cp s → chkS c s st = true → PS X st (liftS B (semS s))
  | .asg t e, st, u, h => by
    unfold chkS at h
    split at h
    · simp only [Bool.and_eq_true, asgOk] at h
      obtain ⟨⟨⟨⟨h1, h2⟩, h3⟩, h4⟩, h5⟩ := h
      exact ds_asg (chk_ok e ok u h5) (tg_ok ok t h4) (sole_none ok h3) (stores_none h2) (by rw [assign_plain h1]; rfl)
    · cases h
  | .lcs i o n, st, u, h => by
    unfold chkS at h
    split at h
    · simp only [Bool.and_eq_true] at h
      obtain ⟨h1, h2⟩ := h
      have sw := lcs_swaps ok hk (l := (by assumption : Pos).line) h1
      cases n with
      | lc own t it oc e =>
        unfold chkN at h2
        split at h2
        · rename_i elt tg iter ifs scope vpos
          simp only [Bool.and_eq_true] at h2
          obtain ⟨⟨⟨⟨⟨⟨g1, g2⟩, g3⟩, g4⟩, g5⟩, g6⟩, g7⟩ := h2
          have h1' := h1
          unfold lcsOk at h1'
          simp only [Bool.and_eq_true, decide_eq_true_eq, Bool.not_eq_true'] at h1'
          have hx : ∀ σ H Q, liftE B (sem (.mk o (.lc own t it oc e))) σ H Q → liftN B (dLc (semI it) t (own.map (·.2)) (semC oc) (sem e)) σ H Q := fun σ H Q q => by
            cases o with
            | true => exact own_le q
            | false => exact frz_le q
          exact ds_setLc ok.K ok.calm (by rw [ok.N]; exact ok.nd) (by rw [ok.N]; exact h1'.1.1.1) (by rw [ok.sc]; exact h1'.1.1.2) (lcs_swaps ok hk h1) (chkI_ok it ok u.1 g2) (by rw [ok.N, ok.sc]; exact blkOk_by g3) g4
            (fun s H C cl f => tg_ok (ok.blk _ s H C cl f) t g5) (fun s H C cl f => chkC_ok oc (ok.blk _ s H C cl f) u.2.1 g6) (fun s H C cl f => chk_ok e (ok.blk _ s H C cl f) u.2.2 g7) (set_plain' g1) hx
        · cases h2
      | lst es => unfold chkN at h2; split at h2 <;> first | (exact absurd h1 Bool.false_ne_true) | cases h2
      | op o' a b => unfold chkN at h2; split at h2 <;> first | (exact absurd h1 Bool.false_ne_true) | cases h2
      | slc a lo hi => unfold chkN at h2; split at h2 <;> first | (exact absurd h1 Bool.false_ne_true) | cases h2
      | bi b es => unfold chkN at h2; split at h2 <;> first | (exact absurd h1 Bool.false_ne_true) | cases h2
      | revL a => unfold chkN at h2; split at h2 <;> first | (exact absurd h1 Bool.false_ne_true) | cases h2
      | lr1 a => unfold chkN at h2; split at h2 <;> first | (exact absurd h1 Bool.false_ne_true) | cases h2
      | lr2 a b => unfold chkN at h2; split at h2 <;> first | (exact absurd h1 Bool.false_ne_true) | cases h2
    · cases h
  | .par i j a b, st, u, h => by
    unfold chkS at h
    split at h
    · simp only [Bool.and_eq_true, parOk, decide_eq_true_eq, Bool.not_eq_true'] at h
      obtain ⟨⟨⟨⟨⟨⟨⟨⟨⟨⟨⟨⟨h1, h2⟩, h3⟩, h4⟩, h5⟩, h6⟩, h7⟩, h8⟩, h9⟩, h10⟩, h11⟩, ha⟩, hb⟩ := h
      have kx := h4
      have ky := h5
      rw [← ok.sc] at kx ky
      exact ds_par ok.calm (by rw [ok.N]; exact ok.nd) (by rw [ok.N]; exact h1) (by rw [ok.N]; exact h2) h3 kx ky (chk_ok a ok u.1 ha) (chk_ok b ok u.2 hb) (star_plain h7) (star_plain h8)
        (par_stores (kind_of ok hk) kx ky h6 h7 h8 h9 h10 h11) rfl
    · cases h
  | .setIx e o i, st, u, h => by
    unfold chkS at h
    split at h
    · simp only [Bool.and_eq_true] at h
      obtain ⟨⟨⟨h1, h2⟩, h3⟩, h4⟩ := h
      refine ds_setIx (chk_ok e ok u.1 h2) (chk_ok o ok u.2.1 h3) (chk_ok i ok u.2.2 h4) (subs_plain h1) (sole_none ok ?_) (stores_none rfl) rfl
      simp
    · cases h
  | .ex e, st, u, h => by
    unfold chkS at h
    split at h
    · simp only [Bool.and_eq_true] at h
      exact ds_expr (chk_ok e ok u h.2) (comp_swaps h.1)
    · cases h
  | .ret e, st, u, h => by
    unfold chkS at h
    split at h
    · exact ds_ret (chk_ok e ok u h)
    · cases h
  | .retN, st, u, h => by
    unfold chkS at h
    split at h
    · exact ds_retN
    · cases h
  | .iff t a b, st, u, h => by
    unfold chkS at h
    split at h
    · simp only [Bool.and_eq_true] at h
      exact ds_if (chkT_ok t ok u.1 h.1.1).1 (chkB_ok ok hk a u.2.1 h.1.2) (chkB_ok ok hk b u.2.2 h.2)
    · cases h
  | .whl t b, st, u, h => by
    unfold chkS at h
    split at h
    · simp only [Bool.and_eq_true] at h
      exact ds_while ok.po (chkT_ok t ok u.1 h.1).1 (chkB_ok ok hk b u.2 h.2)
    · cases h
  | .forr t it b, st, u, h => by
    unfold chkS at h
    split at h
    · simp only [Bool.and_eq_true] at h
      obtain ⟨⟨⟨h1, h2⟩, h3⟩, h4⟩ := h
      exact ds_for ok.po ok.calm (chkI_ok it ok u.1 h3) (tg_ok ok t h2) (chkB_ok ok hk b u.2 h4) (set_plain' h1)
    · cases h
  | .pass, st, u, h => by
    unfold chkS at h
    split at h
    · exact ds_pass
    · cases h
  | .brk, st, u, h => by
    unfold chkS at h
    split at h
    · exact ds_break
    · cases h
  | .cont, st, u, h => by
    unfold chkS at h
    split at h
    · exact ds_cont
    · cases h
theorem chkB_ok (ok : XOk B k fp cp c X) (hk : c.sc.kind = .function) : ∀ (s : List S) {st : List Stmt}, usB fp cp s → chkB c s st = true → PSs X st (liftS B (semB s))
  | [], st, u, h => by
    unfold chkB at h
    cases st with
    | nil => exact dss_nil
    | cons _ _ => cases h
  | s :: r, st, u, h => by
    unfold chkB at h
    split at h
    · simp only [Bool.and_eq_true] at h
      exact dss_cons (chkS_ok ok hk s u.1 h.1) (chkB_ok ok hk r u.2 h.2)
    · cases h
end
end

/-! ### a def of the text -/
def scOk (N ps : List Str) (sc : Scope) : Bool :=
  (match sc.kind with | .function => true | _ => false) && !sc.isCoroutine && !sc.isGenerator && decide N.Nodup && decide (N.take ps.length = ps) &&
    ps.all (fun x => decide (sc.names.lookup x = some .local) || decide (sc.names.lookup x = some .cell)) && sc.names.all (fun y => decide (y.2 ≠ .free))
theorem scOk_by {N ps : List Str} {sc : Scope} (h : scOk N ps sc = true) : FnScope N ps sc := by
  unfold scOk at h
  simp only [Bool.and_eq_true, Bool.not_eq_true', decide_eq_true_eq, List.all_eq_true, Bool.or_eq_true] at h
  obtain ⟨⟨⟨⟨⟨⟨h1, h2⟩, h3⟩, h4⟩, h5⟩, h6⟩, h7⟩ := h
  refine ⟨?_, h2, h3, h4, h5, h6, h7⟩
  split at h1
  · assumption
  · cases h1
def defOk (N ps bi : List Str) (ir : List S) (st : Stmt) : Bool := scOk N ps (defScope st) && chkB ⟨N, defScope st, defScope st, bi⟩ ir (defBody st)
/-- THE RULE: a def whose text passes the check keeps what its reading gives -/
theorem def_ok {P : Program} {w : World} {K : PySem.W.Frag} {mg : Str → Option Value} {base : Heap} {x qual : Str} {st : Stmt} {f : Addr} {fd : FuncData} {N ps bi : List Str} {k : Nat} {sp : DSp} {ir : List S} (fp : Str → DSp → Prop) (cp : Str → D → Prop)
    (F : Fun K x qual st f fd) (h : defOk N ps bi ir st = true) (u : usB fp cp ir) (hbi : ∀ x, bi.contains x = true → mg x = none) (hf : ∀ f sp, fp f sp → FnAt P w K mg base k f sp) (hc : ∀ x d, cp x d → ConAt K mg x d)
    (hsp : ∀ ds G Q, sp ds G Q → ds.length = ps.length ∧ semB ir { nx := fun _ G' => dForget G.length Q .non G', rt := dForget G.length Q } (startD N ds) G) : FnOk P w K mg base CX0 (k + 1) f fd ps (liftSp K mg sp) := by
  have h' : scOk N ps (defScope st) = true ∧ chkB ⟨N, defScope st, defScope st, bi⟩ ir (defBody st) = true := by simpa [defOk] using h
  have S := scOk_by h'.1
  refine fnD F S (fun cdv A outer s H E hr => ?_) hsp
  refine chkB_ok (k := k) (fp := fp) (cp := cp) (c := ⟨N, defScope st, defScope st, bi⟩) ⟨rfl, rfl, rfl, S.nd, rfl, fun _ _ => rfl, rfl, hr, hbi, PassesOwn.never, hf, hc⟩ S.kind ir u h'.2
end DL

/-! DLp: ways to use the data layer: loops by invariants, calls without renaming, ends. -/
namespace DL
open PySem PySem.Spec PyProof.Rows L2

mutual
theorem wf_mono {k j : Nat} (h : k ≤ j) : ∀ {d : D}, wfD k d = true → wfD j d = true
  | .ref i, e => decide_eq_true (Nat.lt_of_lt_of_le (of_decide_eq_true e) h)
  | .tup xs, e => wfL_mono h (ds := xs) e
  | .tw xs, e => by cases e
  | .fl xs, e => wfL_mono h (ds := xs) e
  | .sl xs, e => wfL_mono h (ds := xs) e
  | .non, _ => rfl
  | .bl _, _ => rfl
  | .int _, _ => rfl
  | .str _, _ => rfl
  | .ty _, _ => rfl
  | .fd, _ => rfl
theorem wfL_mono {k j : Nat} (h : k ≤ j) : ∀ {ds : List D}, wfL k ds = true → wfL j ds = true
  | [], _ => rfl
  | d :: ds, e => by
    have e' : wfD k d = true ∧ wfL k ds = true := by simpa [wfL] using e
    show (wfD j d && wfL j ds) = true
    rw [wf_mono h e'.1, wfL_mono h e'.2]; rfl
end
theorem wfL_cons {k : Nat} {d : D} {ds : List D} (h : wfD k d = true) (t : wfL k ds = true) : wfL k (d :: ds) = true := by show (wfD k d && wfL k ds) = true; rw [h, t]; rfl
theorem wfL_iff {k : Nat} : ∀ {ds : List D}, wfL k ds = true ↔ ∀ d ∈ ds, wfD k d = true
  | [] => by simp [wfL]
  | d :: ds => by simp [wfL, wfL_iff (ds := ds)]
theorem wfL_map {α : Type} {k : Nat} {f : α → D} {l : List α} (h : ∀ a, wfD k (f a) = true) : wfL k (l.map f) = true := wfL_iff.mpr fun d hd => by
  obtain ⟨a, _, rfl⟩ := List.mem_map.mp hd
  exact h a
theorem wfL_ints {k : Nat} (ns : List Int) : wfL k (ns.map D.int) = true := wfL_map fun _ => rfl
theorem wfL_app {k : Nat} {xs ys : List D} (h : wfL k xs = true) (h' : wfL k ys = true) : wfL k (xs ++ ys) = true := wfL_iff.mpr fun d hd => by
  rcases List.mem_append.mp hd with q | q
  · exact wfL_iff.mp h d q
  · exact wfL_iff.mp h' d q
theorem wfL_sub {k : Nat} {xs ys : List D} (h : wfL k ys = true) (s : ∀ d ∈ xs, d ∈ ys) : wfL k xs = true := wfL_iff.mpr fun d hd => wfL_iff.mp h d (s d hd)
mutual
theorem ren_cl {is : List Nat} : ∀ {d : D}, wfD 0 d = true → ren is d = some d
  | .ref i, e => absurd (of_decide_eq_true (p := i < 0) e) (Nat.not_lt_zero _)
  | .tup xs, e => by rw [ren, renL_cl (ds := xs) e]; rfl
  | .tw xs, h => by cases h
  | .fl xs, e => by rw [ren, renL_cl (ds := xs) e]; rfl
  | .sl xs, e => by rw [ren, renL_cl (ds := xs) e]; rfl
  | .non, _ => rfl
  | .bl _, _ => rfl
  | .int _, _ => rfl
  | .str _, _ => rfl
  | .ty _, _ => rfl
  | .fd, _ => rfl
theorem renL_cl {is : List Nat} : ∀ {ds : List D}, wfL 0 ds = true → renL is ds = some ds
  | [], _ => rfl
  | d :: ds, e => by
    have e' : wfD 0 d = true ∧ wfL 0 ds = true := by simpa [wfL] using e
    rw [renL, ren_cl e'.1, renL_cl e'.2]
end
theorem renO_cl {is : List Nat} {xs : List D} (h : wfL 0 xs = true) : renO is (.lst xs) = some (.lst xs) := by
  show Option.map DO.lst (renL is xs) = _
  rw [renL_cl h]; rfl
/-! ### calls -/
/-- behind a call: the callee's end, in our names -/
@[irreducible] def back (is : List Nat) (G : DHp) (Q : DK) : DK := fun d Gc' => is.length ≤ Gc'.length ∧ ∃ d' G', ren (ext is G.length Gc'.length) d = some d' ∧ backG is G Gc' = some G' ∧ Q d' G'
theorem call_any {sp : DSp} {is : List Nat} {Gc : DHp} {dsc ds : List D} {G : DHp} {Q : DK} (nd : is.Nodup) (hl : lend is G is Gc) (hr : renL is dsc = some ds) (h : sp dsc Gc (back is G Q)) : dCallR sp ds G Q := by
  unfold dCallR
  unfold back at h
  exact ⟨is, Gc, dsc, nd, hl, hr, h⟩
/-- nothing of ours goes in -/
theorem call0 {sp : DSp} {ds : List D} {G : DHp} {Q : DK} (hc : wfL 0 ds = true) (h : sp ds [] (back [] G Q)) : dCallR sp ds G Q := call_any (Gc := []) List.nodup_nil trivial (renL_cl hc) h
theorem back0 {d : D} {G : DHp} {Q : DK} (hd : wfD 0 d = true) (q : Q d G) : back [] G Q d [] := by
  unfold back
  exact ⟨Nat.le_refl _, d, G, ren_cl hd, by unfold backG; simp [setAll, renOs, ext], q⟩
/-- a new list of its own comes back -/
theorem backN {xs : List D} {G : DHp} {Q : DK} (hx : wfL 0 xs = true) (q : Q (.ref G.length) (G ++ [.lst xs])) : back [] G Q (.ref 0) [.lst xs] := by
  unfold back
  refine ⟨Nat.zero_le _, .ref G.length, G ++ [.lst xs], ?_, ?_, q⟩
  · simp [ren, ext, List.range_succ]
  · unfold backG
    simp [setAll, renOs, ext, renO_cl hx]
/-- a list of ours goes in first -/
theorem call1 {sp : DSp} {i : Nat} {xs ds : List D} {G : DHp} {Q : DK} (hi : G[i]? = some (.lst xs)) (hx : wfL 0 xs = true) (hc : wfL 0 ds = true) (h : sp (.ref 0 :: ds) [.lst xs] (back [i] G Q)) : dCallR sp (.ref i :: ds) G Q :=
  call_any (is := [i]) (Gc := [.lst xs]) (dsc := .ref 0 :: ds) (by simp) ⟨⟨_, renO_cl hx, hi⟩, trivial⟩ (by rw [renL, renL_cl hc]; rfl) h
theorem back1 {i : Nat} {ys : List D} {d : D} {G : DHp} {Q : DK} (hd : wfD 0 d = true) (hy : wfL 0 ys = true) (q : Q d (G.set i (.lst ys))) : back [i] G Q d [.lst ys] := by
  unfold back
  refine ⟨Nat.le_refl _, d, _, ren_cl hd, ?_, q⟩
  unfold backG
  simp [setAll, renOs, ext, renO_cl hy]
/-- a list of ours goes in somewhere -/
theorem call1a {sp : DSp} (i : Nat) {xs ds dsc : List D} {G : DHp} {Q : DK} (hi : G[i]? = some (.lst xs)) (hx : wfL 0 xs = true) (hc : renL [i] dsc = some ds) (h : sp dsc [.lst xs] (back [i] G Q)) : dCallR sp ds G Q :=
  call_any (is := [i]) (Gc := [.lst xs]) (dsc := dsc) (by simp) ⟨⟨_, renO_cl hx, hi⟩, trivial⟩ hc h
/-- two lists of ours go in -/
theorem call2 {sp : DSp} (i j : Nat) {xs ys ds dsc : List D} {G : DHp} {Q : DK} (hij : i ≠ j) (hi : G[i]? = some (.lst xs)) (hj : G[j]? = some (.lst ys)) (hx : wfL 0 xs = true) (hy : wfL 0 ys = true) (hr : renL [i, j] dsc = some ds)
    (h : sp dsc [.lst xs, .lst ys] (back [i, j] G Q)) : dCallR sp ds G Q :=
  call_any (is := [i, j]) (Gc := [.lst xs, .lst ys]) (by simpa using hij) ⟨⟨_, renO_cl hx, hi⟩, ⟨_, renO_cl hy, hj⟩, trivial⟩ hr h
theorem back2 {i j : Nat} {us vs : List D} {d : D} {G : DHp} {Q : DK} (hd : wfD 0 d = true) (hu : wfL 0 us = true) (hv : wfL 0 vs = true) (q : Q d ((G.set i (.lst us)).set j (.lst vs))) : back [i, j] G Q d [.lst us, .lst vs] := by
  unfold back
  refine ⟨Nat.le_refl _, d, _, ren_cl hd, ?_, q⟩
  unfold backG
  simp [setAll, renOs, ext, renO_cl hu, renO_cl hv]
/-! ### ends -/
theorem fin0 {n : Nat} {Q : DK} {d : D} {G : DHp} (hn : n = 0) (hd : wfD 0 d = true) (q : Q d []) : dForget n Q d G := by
  subst hn
  unfold dForget
  exact ⟨0, Nat.le_refl _, Nat.zero_le _, rfl, .inl ⟨hd, q⟩⟩
theorem fin0f {n : Nat} {Q : DK} {j : Nat} {xs : List D} {G : DHp} (hn : n = 0) (e : G[j]? = some (.lst xs)) (hx : wfL 0 xs = true) (q : Q (.fl xs) []) : dForget n Q (.ref j) G := by
  subst hn
  unfold dForget
  exact ⟨0, Nat.le_refl _, Nat.zero_le _, rfl, .inr ⟨j, xs, rfl, Nat.zero_le _, e, hx, q⟩⟩
theorem fin0n {n : Nat} {Q : DK} {xs : List D} (hn : n = 0) (hx : wfL 0 xs = true) (q : Q (.ref 0) [.lst xs]) : dForget n Q (.ref 0) [.lst xs] := by
  subst hn
  unfold dForget
  exact ⟨1, Nat.zero_le _, Nat.le_refl _, by show (wfL 1 xs && true) = true; rw [wfL_mono (Nat.zero_le _) hx]; rfl, .inl ⟨rfl, q⟩⟩
theorem fin1 {n : Nat} {Q : DK} {d : D} {xs : List D} {G : DHp} (hn : n = 1) (hd : wfD 0 d = true) (hx : wfL 0 xs = true) (q : Q d [.lst xs]) : dForget n Q d (.lst xs :: G) := by
  subst hn
  unfold dForget
  exact ⟨1, Nat.le_refl _, by simp, by show (wfL 1 xs && true) = true; rw [wfL_mono (Nat.zero_le _) hx]; rfl, .inl ⟨wf_mono (Nat.zero_le _) hd, q⟩⟩
theorem fin1f {n : Nat} {Q : DK} {j : Nat} {xs ys : List D} {G : DHp} (hn : n = 1) (e : G[j]? = some (.lst ys)) (hx : wfL 0 xs = true) (hy : wfL 0 ys = true) (q : Q (.fl ys) [.lst xs]) : dForget n Q (.ref (j + 1)) (.lst xs :: G) := by
  subst hn
  unfold dForget
  exact ⟨1, Nat.le_refl _, by simp, by show (wfL 1 xs && true) = true; rw [wfL_mono (Nat.zero_le _) hx]; rfl, .inr ⟨j + 1, ys, rfl, by omega, e, wfL_mono (Nat.zero_le _) hy, q⟩⟩
theorem fin2 {n : Nat} {Q : DK} {d : D} {xs ys : List D} {G : DHp} (hn : n = 2) (hd : wfD 0 d = true) (hx : wfL 0 xs = true) (hy : wfL 0 ys = true) (q : Q d [.lst xs, .lst ys]) : dForget n Q d (.lst xs :: .lst ys :: G) := by
  subst hn
  unfold dForget
  exact ⟨2, Nat.le_refl _, by simp, by show (wfL 2 xs && (wfL 2 ys && true)) = true; rw [wfL_mono (Nat.zero_le _) hx, wfL_mono (Nat.zero_le _) hy]; rfl, .inl ⟨wf_mono (Nat.zero_le _) hd, q⟩⟩
/-! ### loops -/
theorem for_i {items : List D} {live : DHp → Prop} {t : Tg} {tb : DTS} {nx : DSt → DHp → Prop} {rt : DK} {bk ct : DSt → DHp → Prop} {ρ : DSt} {G1 : DHp} (W : Nat → DSt → DHp → Prop) (h0 : W 0 ρ G1) (hl : ∀ i ρ G, i ≤ items.length → W i ρ G → live G)
    (ht : ∀ i x ρ G, items[i]? = some x → W i ρ G → t.st x ρ fun ρ1 => tb ⟨W (i + 1), rt, nx, W (i + 1)⟩ ρ1 G) (hd : ∀ ρ G, W items.length ρ G → nx ρ G) : forR items live t tb ⟨nx, rt, bk, ct⟩ ρ G1 := by
  unfold forR
  exact ⟨W, h0, hl, ht, hd⟩
theorem while_i {c : DTT} {tb : DTS} {nx : DSt → DHp → Prop} {rt : DK} {bk ct : DSt → DHp → Prop} {ρ : DSt} {G : DHp} (W : Nat → DSt → DHp → Prop) (n : Nat) (h0 : W n ρ G)
    (h : ∀ n ρ G, W n ρ G → c ρ G fun b G1 => br b (tb ⟨fun ρ' G' => ∃ k, k < n ∧ W k ρ' G', rt, nx, fun ρ' G' => ∃ k, k < n ∧ W k ρ' G'⟩ ρ G1) (nx ρ G1)) : whileR c tb ⟨nx, rt, bk, ct⟩ ρ G := by
  unfold whileR
  exact ⟨W, ⟨n, h0⟩, h⟩
theorem lc_i {items : List D} {bd : Bool} {live : DHp → Prop} {t : Tg} {vs : List Nat} {tt : DTT} {te : DTE} {ρ : DSt} {G1 : DHp} {Q : List D → DHp → Prop} (hb : bd = true ∨ items.length ≤ sizeLine) (W : Nat → List D → DHp → Prop) (h0 : W 0 [] G1)
    (hl : ∀ i acc G, i ≤ items.length → W i acc G → live G)
    (ht : ∀ i x acc G, items[i]? = some x → W i acc G → t.st x (wipeD ρ vs) fun ρ1 => tt ρ1 G fun b G2 => br b (te ρ1 G2 fun y G3 => W (i + 1) (acc ++ [y]) G3) (W (i + 1) acc G2))
    (hd : ∀ acc G, W items.length acc G → Q acc G) : lcR items bd live t vs tt te ρ G1 Q := by
  unfold lcR
  exact ⟨hb, W, h0, hl, ht, hd⟩
/-- a comprehension that reads and keeps nothing else: item by item, chosen by p, mapped by f -/
theorem lc_map {α : Type} {l : List α} {enc : α → D} {items : List D} {bd : Bool} {live : DHp → Prop} {t : Tg} {vs : List Nat} {tt : DTT} {te : DTE} {ρ : DSt} {G : DHp} {Q : List D → DHp → Prop} (p : α → Bool) (f : α → D) (he : items = l.map enc) (hb : bd = true ∨ l.length ≤ sizeLine) (hl : live G)
    (ht : ∀ a ∈ l, ∀ (Y : D → DHp → Prop) (N : DHp → Prop), (p a = true → Y (f a) G) → (p a = false → N G) → t.st (enc a) (wipeD ρ vs) fun ρ1 => tt ρ1 G fun b G2 => br b (te ρ1 G2 Y) (N G2))
    (hd : Q ((l.filter p).map f) G) : lcR items bd live t vs tt te ρ G Q := by
  subst he
  refine lc_i (by rw [List.length_map]; exact hb) (fun i acc G' => G' = G ∧ acc = ((l.take i).filter p).map f) ⟨rfl, rfl⟩ (fun i acc G' _ h => h.1 ▸ hl) ?_ ?_
  · rintro i x acc G' hx ⟨rfl, rfl⟩
    rw [List.getElem?_map] at hx
    cases e : l[i]? with
    | none => rw [e] at hx; cases hx
    | some a =>
      rw [e] at hx
      cases hx
      have ek : l.take (i + 1) = l.take i ++ [a] := by rw [List.take_succ, e]; rfl
      refine ht a (List.mem_of_getElem? e) _ _ (fun hp => ⟨rfl, ?_⟩) fun hp => ⟨rfl, ?_⟩
      · rw [ek, List.filter_append, List.map_append]
        simp [hp]
      · rw [ek, List.filter_append, List.map_append]
        simp [hp]
  · rintro acc G' ⟨rfl, rfl⟩
    rw [List.length_map, List.take_of_length_le (Nat.le_refl _)]
    exact hd
/-- .. without a choice -/
theorem lc_all {α : Type} {l : List α} {enc : α → D} {items : List D} {bd : Bool} {live : DHp → Prop} {t : Tg} {vs : List Nat} {te : DTE} {ρ : DSt} {G : DHp} {Q : List D → DHp → Prop} (f : α → D) (he : items = l.map enc) (hb : bd = true ∨ l.length ≤ sizeLine) (hl : live G)
    (ht : ∀ a ∈ l, ∀ (Y : D → DHp → Prop), Y (f a) G → t.st (enc a) (wipeD ρ vs) fun ρ1 => te ρ1 G Y)
    (hd : Q (l.map f) G) : lcR items bd live t vs dYes te ρ G Q := by
  subst he
  refine lc_i (by rw [List.length_map]; exact hb) (fun i acc G' => G' = G ∧ acc = (l.take i).map f) ⟨rfl, rfl⟩ (fun i acc G' _ h => h.1 ▸ hl) ?_ ?_
  · rintro i x acc G' hx ⟨rfl, rfl⟩
    rw [List.getElem?_map] at hx
    cases e : l[i]? with
    | none => rw [e] at hx; cases hx
    | some a =>
      rw [e] at hx
      cases hx
      have ek : l.take (i + 1) = l.take i ++ [a] := by rw [List.take_succ, e]; rfl
      have key : (fun ρ1 => dYes ρ1 G' fun b G2 => br b (te ρ1 G2 fun y G3 => G3 = G' ∧ (l.take i).map f ++ [y] = (l.take (i + 1)).map f) (G2 = G' ∧ (l.take i).map f = (l.take (i + 1)).map f)) = fun ρ1 => te ρ1 G' fun y G3 => G3 = G' ∧ (l.take i).map f ++ [y] = (l.take (i + 1)).map f := by
        funext ρ1
        exact propext br_t
      rw [key]
      refine ht a (List.mem_of_getElem? e) _ ⟨rfl, ?_⟩
      rw [ek, List.map_append]; rfl
  · rintro acc G' ⟨rfl, rfl⟩
    rw [List.length_map, List.take_of_length_le (Nat.le_refl _)]
    exact hd
theorem rng_get {n i : Nat} {f : Nat → D} {x : D} (h : ((List.range n).map f)[i]? = some x) : i < n ∧ x = f i := by
  rw [List.getElem?_map] at h
  have hi : i < n := by
    cases e : (List.range n)[i]? with
    | none => rw [e] at h; cases h
    | some c => simpa using (List.getElem?_eq_some_iff.mp e).1
  rw [List.getElem?_range hi] at h
  cases h
  exact ⟨hi, rfl⟩
theorem map_get {α : Type} {l : List α} {i : Nat} {f : α → D} {x : D} (h : (l.map f)[i]? = some x) : ∃ a, l[i]? = some a ∧ a ∈ l ∧ x = f a := by
  rw [List.getElem?_map] at h
  cases e : l[i]? with
  | none => rw [e] at h; cases h
  | some a => rw [e] at h; cases h; exact ⟨a, rfl, List.mem_of_getElem? e, rfl⟩
/-! ### small facts -/
theorem mul_l {i j : Int} (h : -1000000000000000000 ≤ i) (h' : i ≤ 1000000000000000000) : mulOk i j := .inl (.inl ⟨by omega, by omega⟩)
theorem mul_r {i j : Int} (h : -1000000000000000000 ≤ j) (h' : j ≤ 1000000000000000000) : mulOk i j := .inl (.inr ⟨by omega, by omega⟩)
theorem div_c {i j : Int} (h : 0 < j) (h' : j < 4611686018427387904) : CDivW i j := ⟨h, by
  have : j.natAbs.log2 < 62 := (Nat.log2_lt (by omega)).mpr (by omega)
  omega⟩
theorem atI_nat {α : Type} {xs : List α} {i : Int} {x : α} (h0 : 0 ≤ i) (h : xs[i.toNat]? = some x) : atI xs i = some x := by
  have hl := (List.getElem?_eq_some_iff.mp h).1
  unfold atI ixN
  rw [if_pos h0, if_pos (by omega)]
  exact h
theorem sl_le {n : Nat} (h : n ≤ 16777216) : n ≤ sizeLine := by rw [sizeLine_eq]; omega
end DL

namespace AP
open PySem PySem.Spec PyProof.Rows L2 DL
local macro_rules | `(tactic| walk_at "side") => `(tactic| first | rfl | (exact And.intro rfl (Exists.intro _ rfl)) | assumption | omega | (exact mul_r (by omega) (by omega)) | (exact mul_l (by omega) (by omega)) | (exact div_c (by omega) (by omega)) | (exact sl_le (by first | (simp; done) | (simp; omega))) | (exact ⟨by omega, by omega, by omega⟩))
local macro_rules | `(tactic| walk_at "go") => `(tactic| ((repeat ((conv => whnf); first | refine And.intro (by walk_at "side") ?_ | refine Or.inl (And.intro (by walk_at "side") ?_) | refine br_yes (by first | rfl | assumption) ?_ | refine br_no (by first | rfl | assumption) ?_ | refine Exists.intro _ (And.intro rfl ?_))); (conv => whnf)))
def topS (i : Nat) : Stmt := PySem.Challenge.pw_askedpairs_k64_heaviest_of_anything.main.body.getD i (.Pass ⟨0, 0, 0, 0⟩)
/-- what a def's body must do -/
abbrev Does (ir : List S) (N : List Str) (ds : List D) (G : DHp) (Q : DK) : Prop := semB ir ⟨fun _ G' => dForget G.length Q .non G', dForget G.length Q, fun _ _ => False, fun _ _ => False⟩ (startD N ds) G
/-- a def keeps its promise -/
def Keeps (ps : Nat) (ir : List S) (N : List Str) (sp : DSp) : Prop := ∀ ds G Q, sp ds G Q → ds.length = ps ∧ Does ir N ds G Q
def Dr (ns : List Int) : Prop := ∀ n ∈ ns, 0 ≤ n ∧ n < 2147483647

def sp_L_mixed : DSp := fun ds G Q => match ds, G with
  | [.int c, .int k], [] => (0 ≤ k ∧ k ≤ 1000) ∧ ∀ n, 0 ≤ n → n < 2147483629 → Q (.int n) []
  | _, _ => False
def N_L_mixed : List Str := ["_law_cell", "_law_k", "_law_number"]
def ir_L_mixed : List S :=
  [.asg (.nm 2) (.op .Mod (.op .Add (.op .Add (.op .Mult (.op .Mod (.var 0) (.lit (.int 2147483647))) (.lit (.int 48271))) (.op .Mult (.op .Mult (.lit (.int 7919)) (.var 1)) (.var 1))) (.lit (.int 104729))) (.lit (.int 2147483647))), .ret (.op .Mod (.op .Mult (.var 2) (.var 2)) (.lit (.int 2147483629)))]
theorem ck_L_mixed : defOk N_L_mixed ["_law_cell", "_law_k"] [] ir_L_mixed (topS 14) = true := by decide +kernel
-- slots: 0=_law_cell 1=_law_k 2=_law_number | bi:  | calls:  | cons: 
theorem ks_L_mixed : Keeps 2 ir_L_mixed N_L_mixed sp_L_mixed := by
  intro ds G Q h
  unfold sp_L_mixed at h
  split at h
  · obtain ⟨⟨h0, h1⟩, q⟩ := h
    rename_i c k
    refine ⟨rfl, ?_⟩
    walk_at "go"
    exact fin0 rfl rfl (q _ (by omega) (by omega))
  · exact h.elim

def enI (ns : List Int) : List D := ns.map D.int
theorem enI_wf {k : Nat} (ns : List Int) : wfL k (enI ns) = true := wfL_ints ns

def sp_L_next : DSp := fun ds G Q => match ds, G with
  | [.ref 0], [.lst xs] => ∃ ns, xs = enI ns ∧ Dr ns ∧ ∀ n ns', 0 ≤ n → n < 2147483647 → Dr ns' → Q (.int n) [.lst (enI ns')]
  | _, _ => False
def N_L_next : List Str := ["_law_drawn"]
def ir_L_next : List S :=
  [.iff (.cmp .Eq (.var 0) (.mk false (.lst []))) [.ret (.lit (.int 0))] [], .ret (.met .popAt (.var 0) [(.lit (.int 0))])]
theorem ck_L_next : defOk N_L_next ["_law_drawn"] [] ir_L_next (topS 16) = true := by decide +kernel
-- slots: 0=_law_drawn | bi:  | calls:  | cons: 
theorem ks_L_next : Keeps 1 ir_L_next N_L_next sp_L_next := by
  intro ds G Q h
  unfold sp_L_next at h
  split at h
  · obtain ⟨ns, rfl, hd, q⟩ := h
    refine ⟨rfl, ?_⟩
    walk_at "go"
    cases ns with
    | nil => exact br_yes rfl (fin1 rfl rfl rfl (q 0 [] (by omega) (by omega) hd))
    | cons n r =>
      refine br_no rfl ?_
      walk_at "go"
      refine ⟨0, .int n, ?_, rfl, fin1 rfl rfl (enI_wf r) (q n r (hd n List.mem_cons_self).1 (hd n List.mem_cons_self).2 fun m hm => hd m (List.mem_cons_of_mem _ hm))⟩
      unfold seqIndex? enI
      simp
  · exact h.elim

def sp_L_gcd : DSp := fun ds G Q => match ds, G with
  | [.int a, .int b], [] => (0 ≤ a ∧ 0 < b ∧ a < 1000000 ∧ b < 1000000) ∧ Q (.int (Int.gcd a b)) []
  | _, _ => False
def N_L_gcd : List Str := ["_law_one", "_law_other"]
def ir_L_gcd : List S :=
  [.whl (.cmp .NotEq (.var 1) (.lit (.int 0))) [.par 0 1 (.var 1) (.op .Mod (.var 0) (.var 1))], .ret (.bi .abs [(.var 0)])]
theorem ck_L_gcd : defOk N_L_gcd ["_law_one", "_law_other"] ["abs"] ir_L_gcd (topS 17) = true := by decide +kernel
-- slots: 0=_law_one 1=_law_other | bi: abs | calls:  | cons: 
structure WGcd (a0 b0 : Int) (n : Nat) (ρ : DSt) (G : DHp) : Prop where
  h : ∃ a b, ρ = [some (.int a), some (.int b)] ∧ G = [] ∧ 0 ≤ a ∧ 0 ≤ b ∧ Int.gcd a b = Int.gcd a0 b0 ∧ b.toNat ≤ n
theorem ks_L_gcd : Keeps 2 ir_L_gcd N_L_gcd sp_L_gcd := by
  intro ds G Q h
  unfold sp_L_gcd at h
  split at h
  · obtain ⟨⟨h0, h1, h2, h3⟩, q⟩ := h
    rename_i a0 b0
    refine ⟨rfl, ?_⟩
    walk_at "go"
    refine while_i (WGcd a0 b0) b0.toNat ⟨a0, b0, rfl, rfl, h0, by omega, rfl, Nat.le_refl _⟩ ?_
    rintro n _ _ ⟨a, b, rfl, rfl, ha, hb, e, hn⟩
    walk_at "go"
    refine br_i (fun hc => ?_) fun hc => ?_
    · have hb0 : b ≠ 0 := by simpa using hc
      walk_at "go"
      refine ⟨(a % b).toNat, ?_, b, a % b, rfl, rfl, hb, Int.emod_nonneg _ hb0, ?_, Nat.le_refl _⟩
      · have := Int.emod_lt_of_pos a (show 0 < b by omega)
        have := Int.emod_nonneg a hb0
        omega
      · rw [← e]
        obtain ⟨x, rfl⟩ := Int.eq_ofNat_of_zero_le ha
        obtain ⟨y, rfl⟩ := Int.eq_ofNat_of_zero_le hb
        show Nat.gcd y ((x : Int) % (y : Int)).natAbs = Nat.gcd x y
        rw [show ((x : Int) % (y : Int)).natAbs = x % y from rfl, Nat.gcd_comm y, ← Nat.gcd_rec, Nat.gcd_comm]
    · have hb0 : b = 0 := by simpa using hc
      subst hb0
      walk_at "go"
      refine fin0 rfl rfl ?_
      rw [Int.gcd_zero_right] at e
      have : (if a < 0 then -a else a) = ((Int.gcd a0 b0 : Nat) : Int) := by rw [if_neg (by omega), ← e]; omega
      rw [this]
      exact q
  · exact h.elim

def pr (a b : Int) : D := .tup [.int a, .int b]
/-- a chance: a fraction of whole numbers in lowest terms, from 0 to 1 -/
def ChOk (p q : Int) : Prop := 0 ≤ p ∧ p ≤ q ∧ 1 ≤ q ∧ q ≤ 100 ∧ Int.gcd p q = 1

def sp_L_low : DSp := fun ds G Q => match ds, G with
  | [.int a, .int b], [] => (0 ≤ a ∧ a ≤ b ∧ 0 < b ∧ b ≤ 100) ∧ ∀ p q, ChOk p q → Q (pr p q) []
  | _, _ => False
def N_L_low : List Str := ["_law_top", "_law_bottom", "_law_common"]
def ir_L_low : List S :=
  [.asg (.nm 2) (.call "_law_gcd" sp_L_gcd [(.var 0), (.var 1)]), .ret (.tup [(.op .FloorDiv (.var 0) (.var 2)), (.op .FloorDiv (.var 1) (.var 2))])]
theorem ck_L_low : defOk N_L_low ["_law_top", "_law_bottom"] [] ir_L_low (topS 18) = true := by decide +kernel
-- slots: 0=_law_top 1=_law_bottom 2=_law_common | bi:  | calls: _law_gcd | cons: 
theorem ks_L_low : Keeps 2 ir_L_low N_L_low sp_L_low := by
  intro ds G Q h
  unfold sp_L_low at h
  split at h
  · obtain ⟨⟨h0, h1, h2, h3⟩, q⟩ := h
    rename_i a b
    refine ⟨rfl, ?_⟩
    walk_at "go"
    refine call0 rfl ⟨⟨h0, h2, by omega, by omega⟩, back0 rfl ?_⟩
    have g1 : 0 < Int.gcd a b := Int.gcd_pos_of_ne_zero_right _ (by omega)
    have g2 : ((Int.gcd a b : Nat) : Int) ∣ a := Int.gcd_dvd_left ..
    have g3 : ((Int.gcd a b : Nat) : Int) ∣ b := Int.gcd_dvd_right ..
    have g4 : ((Int.gcd a b : Nat) : Int) ≤ b := Int.le_of_dvd h2 g3
    have g5 : Int.gcd (a / (Int.gcd a b : Nat)) (b / (Int.gcd a b : Nat)) = 1 := by
      rw [Int.gcd_ediv g2 g3]
      show Int.gcd a b / Int.gcd a b = 1
      exact Nat.div_self g1
    generalize Int.gcd a b = g at *
    walk_at "go"
    refine fin0 rfl rfl (q _ _ ⟨Int.ediv_nonneg h0 (by omega), Int.ediv_le_ediv (by omega) h1, ?_, ?_, g5⟩)
    · exact (Int.le_ediv_iff_mul_le (by omega)).mpr (by omega)
    · exact Int.le_trans (Int.ediv_le_self _ (by omega)) h3
  · exact h.elim

theorem ix_all {xs : List D} {i : Int} {K : D → Prop} (h0 : 0 ≤ i) (h : i < xs.length) (hk : ∀ x ∈ xs, K x) : ∃ d, atI xs i = some d ∧ K d := by
  have hl : i.toNat < xs.length := by omega
  exact ⟨xs[i.toNat], atI_nat h0 (List.getElem?_eq_getElem hl), hk _ (List.getElem_mem hl)⟩
theorem all_nil {K : D → Prop} : ∀ x ∈ ([] : List D), K x := fun x h => absurd h (by simp)
theorem all_cons {K : D → Prop} {a : D} {l : List D} (h : K a) (t : ∀ x ∈ l, K x) : ∀ x ∈ a :: l, K x := fun x hx => by
  rcases List.mem_cons.mp hx with rfl | hx
  · exact h
  · exact t x hx
local macro_rules | `(tactic| walk_at "each") => `(tactic| refine ix_all (by omega) (by simp; omega) ?_ <;> repeat' first | exact all_nil | refine all_cons ?_ ?_)

def sp_L_chance : DSp := fun ds G Q => match ds, G with
  | [.int n, .int k], [] => (0 ≤ n ∧ n < 2147483647 ∧ 0 ≤ k) ∧ ∀ p q, ChOk p q → Q (pr p q) []
  | _, _ => False
def N_L_chance : List Str := ["_law_number", "_law_kind", "_law_bottom"]
def ir_L_chance : List S :=
  [.iff (.cmp .Eq (.var 1) (.lit (.int 0))) [.ret (.sub (.mk false (.lst [(.tup [(.lit (.int 1)), (.lit (.int 2))]), (.tup [(.lit (.int 1)), (.lit (.int 3))]), (.tup [(.lit (.int 2)), (.lit (.int 3))]), (.tup [(.lit (.int 1)), (.lit (.int 1))]), (.tup [(.lit (.int 0)), (.lit (.int 1))]), (.tup [(.lit (.int 3)), (.lit (.int 4))])])) (.op .Mod (.var 0) (.lit (.int 6))))] [], .iff (.cmp .Eq (.var 1) (.lit (.int 1))) [.asg (.nm 2) (.op .Add (.lit (.int 2)) (.op .Mod (.var 0) (.lit (.int 9)))), .ret (.call "_law_low" sp_L_low [(.op .Add (.lit (.int 1)) (.op .Mod (.op .FloorDiv (.var 0) (.lit (.int 9))) (.op .Sub (.var 2) (.lit (.int 1))))), (.var 2)])] [], .iff (.cmp .Eq (.var 1) (.lit (.int 2))) [.asg (.nm 2) (.op .Add (.lit (.int 1)) (.op .Mod (.var 0) (.lit (.int 100)))), .ret (.call "_law_low" sp_L_low [(.op .Mod (.op .FloorDiv (.var 0) (.lit (.int 100))) (.op .Add (.var 2) (.lit (.int 1)))), (.var 2)])] [], .ret (.tup [(.lit (.int 1)), (.lit (.int 1))])]
theorem ck_L_chance : defOk N_L_chance ["_law_number", "_law_kind"] [] ir_L_chance (topS 20) = true := by decide +kernel
-- slots: 0=_law_number 1=_law_kind 2=_law_bottom | bi:  | calls: _law_low | cons: 
theorem ks_L_chance : Keeps 2 ir_L_chance N_L_chance sp_L_chance := by
  intro ds G Q h
  unfold sp_L_chance at h
  split at h
  · obtain ⟨⟨h0, h1, h2⟩, q⟩ := h
    rename_i n k
    refine ⟨rfl, ?_⟩
    walk_at "go"
    refine br_i (fun hc => ?_) fun hc => ?_
    · walk_at "go"
      walk_at "each"
      all_goals exact fin0 rfl rfl (q _ _ (by unfold ChOk; decide))
    · walk_at "go"
      refine br_i (fun hc => ?_) fun hc => ?_
      · walk_at "go"
        refine call0 rfl ⟨⟨?_, ?_, by omega, by omega⟩, fun p q' hp => back0 rfl (fin0 rfl rfl (q _ _ hp))⟩
        all_goals have := Int.emod_lt_of_pos (n / 9) (show 0 < 2 + n % 9 - 1 by omega)
        all_goals have := Int.emod_nonneg (n / 9) (show 2 + n % 9 - 1 ≠ 0 by omega)
        all_goals omega
      · walk_at "go"
        refine br_i (fun hc => ?_) fun hc => ?_
        · walk_at "go"
          refine call0 rfl ⟨⟨?_, ?_, by omega, by omega⟩, fun p q' hp => back0 rfl (fin0 rfl rfl (q _ _ hp))⟩
          · exact Int.emod_nonneg _ (by omega)
          · have := Int.emod_lt_of_pos (n / 100) (show 0 < 1 + n % 100 + 1 by omega)
            omega
        · walk_at "go"
          exact fin0 rfl rfl (q _ _ (by unfold ChOk; decide))
  · exact h.elim

theorem ix_ints {P : Int → Prop} {xs : List D} {i : Int} {K : D → Prop} (h0 : 0 ≤ i) (h : i < xs.length) (hp : ∀ x ∈ xs, ∃ j, x = .int j ∧ P j) (hk : ∀ j, P j → K (.int j)) : ∃ d, atI xs i = some d ∧ K d :=
  ix_all h0 h fun x hx => by
    obtain ⟨j, rfl, p⟩ := hp x hx
    exact hk j p
theorem wrap_ne {a c n : Int} (h0 : 0 ≤ a) (h1 : a < n) (h2 : 1 ≤ c) (h3 : c < n) : 0 ≤ (a + c) % n ∧ (a + c) % n < n ∧ (a + c) % n ≠ a := by
  refine ⟨Int.emod_nonneg _ (by omega), Int.emod_lt_of_pos _ (by omega), ?_⟩
  by_cases h : a + c < n
  · rw [Int.emod_eq_of_lt (by omega) h]; omega
  · have e : (a + c) % n = (a + c - n) % n := by rw [Int.sub_emod_right]
    rw [e, Int.emod_eq_of_lt (by omega) (by omega)]
    omega
theorem mm_ok {a b n : Int} (h0 : 0 ≤ a ∧ a < n) (h1 : 0 ≤ b ∧ b < n) (hn : b ≠ a) : 0 ≤ (if b < a then b else a) ∧ (if b < a then b else a) < (if b > a then b else a) ∧ (if b > a then b else a) < n := by
  by_cases h : b < a
  · rw [if_pos h, if_neg (by omega)]; omega
  · rw [if_neg h, if_pos (by omega)]; omega
theorem em2 {x n : Int} (h : 0 < n) : 0 ≤ x % n ∧ x % n < n := ⟨Int.emod_nonneg _ (by omega), Int.emod_lt_of_pos _ h⟩
structure Tie where
  a : Int
  b : Int
  p : Int
  q : Int
  w : Int
def Tie.d (t : Tie) : D := .tup [.int t.a, .int t.b, pr t.p t.q, .int t.w]
def TieOk (n : Int) (t : Tie) : Prop := 0 ≤ t.a ∧ t.a < t.b ∧ t.b < n ∧ ChOk t.p t.q ∧ 0 ≤ t.w ∧ t.w ≤ 1000
def enT (ts : List Tie) : List D := ts.map Tie.d
theorem enT_snoc (ts : List Tie) (t : Tie) : enT (ts ++ [t]) = enT ts ++ [t.d] := List.map_append
theorem enT_wf {k : Nat} (ts : List Tie) : wfL k (enT ts) = true := wfL_map fun _ => rfl
local macro_rules | `(tactic| walk_at "nx") => `(tactic| refine call1 rfl (enI_wf _) rfl ⟨_, rfl, (by assumption), fun n ns' hn hn' hd' => back1 rfl (enI_wf _) ?_⟩)

structure Web where
  n : Int
  ts : List Tie
  ps : List Int
  k : Int
def Web.d (w : Web) : D := .tup [.int w.n, .tup (enT w.ts), .tup (enI w.ps), .int w.k]
structure WebOk (most th : Int) (w : Web) : Prop where
  n0 : 0 ≤ w.n
  n1 : w.n ≤ most
  tl : (w.ts.length : Int) ≤ th
  ts : ∀ t ∈ w.ts, TieOk w.n t
  pl : (w.ps.length : Int) = w.n
  ps : ∀ p ∈ w.ps, 0 ≤ p ∧ p ≤ 20
  k0 : 0 ≤ w.k
  k1 : w.k ≤ 40
theorem web_wf (w : Web) {k : Nat} : wfD k w.d = true := by
  show (true && (wfL k (enT w.ts) && (wfL k (enI w.ps) && (true && true)))) = true
  rw [enT_wf, enI_wf]; rfl

theorem enI_snoc (ts : List Int) (t : Int) : enI (ts ++ [t]) = enI ts ++ [.int t] := List.map_append

local macro_rules | `(tactic| walk_at "side") => `(tactic| first | rfl | (exact And.intro rfl (Exists.intro _ rfl)) | assumption | omega | (exact mul_r (by omega) (by omega)) | (exact mul_l (by omega) (by omega)) | (exact div_c (by omega) (by omega)) | (exact sl_le (by first | (simp; done) | (simp; omega))) | (exact ⟨by omega, by omega, by omega⟩))
local macro_rules | `(tactic| walk_at "go") => `(tactic| ((repeat ((conv => whnf); first | refine And.intro (by walk_at "side") ?_ | refine Or.inl (And.intro (by walk_at "side") ?_) | refine br_yes (by first | rfl | assumption) ?_ | refine br_no (by first | rfl | assumption) ?_ | refine Exists.intro _ (And.intro rfl ?_) | refine Exists.intro _ (Exists.intro _ (And.intro rfl (And.intro rfl ?_))))); (conv => whnf)))
local macro_rules | `(tactic| walk_at "each") => `(tactic| refine ix_all (by omega) (by simp; omega) ?_ <;> repeat' first | exact all_nil | refine all_cons ?_ ?_)
local macro_rules | `(tactic| walk_at "nx") => `(tactic| refine call1 rfl (enI_wf _) rfl ⟨_, rfl, (by assumption), fun n ns' hn hn' hd' => back1 rfl (enI_wf _) ?_⟩)

def fbody : S → List S
  | .forr _ _ b => b
  | .whl _ b => b
  | .iff _ a _ => a
  | _ => []
theorem dr_snoc {ms : List Int} {n : Int} (h : Dr ms) (h0 : 0 ≤ n) (h1 : n < 2147483647) : Dr (ms ++ [n]) := fun m hm => by
  rcases List.mem_append.mp hm with q | q
  · exact h m q
  · rw [List.mem_singleton.mp q]; exact ⟨h0, h1⟩

def sp_L_draws : DSp := fun ds G Q => match ds, G with
  | [.sl xs], [] => (∃ ns : List Int, xs = enI ns) ∧ ∀ ms, Dr ms → Q (.ref 0) [.lst (enI ms)]
  | _, _ => False
def N_L_draws : List Str := ["_law_script", "_law_drawn", "_law_k", "_law_cell", "_law_j"]
def ir_L_draws : List S :=
  [.asg (.nm 1) (.mk true (.lst [])), .forr (.nm 2) (.rng1 (.bi .min [(.bi .len [(.var 0)]), (.lit (.int 63))])) [.asg (.nm 3) (.bi .abs [(.sub (.var 0) (.var 2))]), .iff (.cmp .Lt (.var 3) (.op .Pow (.lit (.int 10)) (.lit (.int 18)))) [.forr (.nm 4) (.rng1 (.lit (.int 12))) [.ex (.met .append (.var 1) [(.call "_law_mixed" sp_L_mixed [(.call "_law_mixed" sp_L_mixed [(.var 3), (.op .Add (.op .Mult (.lit (.int 3)) (.var 4)) (.lit (.int 1)))]), (.op .Add (.op .Add (.var 4) (.var 2)) (.lit (.int 2)))])])]] [], .whl (.and (.cmp .GtE (.var 3) (.op .Pow (.lit (.int 10)) (.lit (.int 18)))) (.cmp .Lt (.bi .len [(.var 1)]) (.lit (.int 900)))) [.ex (.met .append (.var 1) [(.op .Mod (.var 3) (.lit (.int 2147483629)))]), .asg (.nm 3) (.op .FloorDiv (.var 3) (.lit (.int 2147483629)))], .iff (.cmp .GtE (.var 3) (.lit (.int 2147483629))) [.ex (.met .append (.var 1) [(.op .Mod (.var 3) (.lit (.int 2147483629)))])] []], .ret (.var 1)]
theorem ck_L_draws : defOk N_L_draws ["_law_script"] ["range", "min", "len", "abs"] ir_L_draws (topS 15) = true := by decide +kernel
-- slots: 0=_law_script 1=_law_drawn 2=_law_k 3=_law_cell 4=_law_j | bi: range min len abs | calls: _law_mixed | cons: 
structure WDraws (ns : List Int) (i : Nat) (ρ : DSt) (G : DHp) : Prop where
  h : ∃ x2 x3 x4 ms, ρ = [some (.sl (enI ns)), some (.ref 0), x2, x3, x4] ∧ G = [.lst (enI ms)] ∧ Dr ms ∧ ms.length ≤ 913 * i
structure WDrawsF (ns : List Int) (l0 : Nat) (k c : D) (i : Nat) (ρ : DSt) (G : DHp) : Prop where
  h : ∃ x4 ms, ρ = [some (.sl (enI ns)), some (.ref 0), some k, some c, x4] ∧ G = [.lst (enI ms)] ∧ Dr ms ∧ ms.length ≤ l0 + i
structure WDrawsW (ns : List Int) (l0 : Nat) (k : D) (n : Nat) (ρ : DSt) (G : DHp) : Prop where
  h : ∃ x4 ms c, ρ = [some (.sl (enI ns)), some (.ref 0), some k, some (.int c), x4] ∧ G = [.lst (enI ms)] ∧ Dr ms ∧ ms.length ≤ l0 + 900 ∧ 0 ≤ c ∧ c.toNat ≤ n
theorem ks_L_draws : Keeps 1 ir_L_draws N_L_draws sp_L_draws := by
  intro ds G Q h
  unfold sp_L_draws at h
  split at h
  · obtain ⟨⟨ns, rfl⟩, q⟩ := h
    refine ⟨rfl, ?_⟩
    walk_at "go"
    have hmin : ((if 63 < ((enI ns).length : Int) then (63 : Int) else ((enI ns).length : Int)).toNat ≤ 63) ∧ ((if 63 < ((enI ns).length : Int) then (63 : Int) else ((enI ns).length : Int)).toNat ≤ ns.length) := by
      unfold enI; rw [List.length_map]; split <;> omega
    generalize (if 63 < ((enI ns).length : Int) then (63 : Int) else ((enI ns).length : Int)).toNat = mm at *
    refine for_i (WDraws ns) ⟨_, _, _, [], rfl, rfl, fun t ht => absurd ht (by simp), by simp⟩ (fun _ _ _ _ _ => trivial) ?_ ?_
    · rintro i x _ _ hx ⟨x2, x3, x4, ms, rfl, rfl, hd, hl⟩
      obtain ⟨hi, rfl⟩ := rng_get hx
      walk_at "go"
      have hin : i < ns.length := by omega
      refine ⟨.int ns[i], atI_nat (by omega) ?_, ?_⟩
      · have e : (0 + (i : Int)).toNat = i := by omega
        rw [e, enI, List.getElem?_map, List.getElem?_eq_getElem hin]; rfl
      walk_at "go"
      have hc0 : 0 ≤ (if ns[i] < 0 then -ns[i] else ns[i]) := by split <;> omega
      generalize (if ns[i] < 0 then -ns[i] else ns[i]) = c at *
      have tail : ∀ x4 ms, Dr ms → ms.length ≤ 913 * i + 12 → ∀ bk ct, semB ((fbody (ir_L_draws.getD 1 .pass)).drop 2) ⟨WDraws ns (i + 1), dForget 0 Q, bk, ct⟩ [some (.sl (enI ns)), some (.ref 0), some (.int (0 + (i : Int))), some (.int c), x4] [.lst (enI ms)] := by
        intro x4 ms hd hl bk ct
        walk_at "go"
        refine while_i (WDrawsW ns (913 * i + 12) (.int (0 + (i : Int)))) c.toNat ⟨_, ms, c, rfl, rfl, hd, by omega, hc0, Nat.le_refl _⟩ ?_
        rintro n _ _ ⟨x4, ms, c, rfl, rfl, hd, hl, hc0, hn⟩
        walk_at "go"
        have done : ∀ bk ct, semB ((fbody (ir_L_draws.getD 1 .pass)).drop 3) ⟨WDraws ns (i + 1), dForget 0 Q, bk, ct⟩ [some (.sl (enI ns)), some (.ref 0), some (.int (0 + (i : Int))), some (.int c), x4] [.lst (enI ms)] := by
          intro bk ct
          walk_at "go"
          refine br_i (fun hc => ?_) fun hc => ?_
          · walk_at "go"
            refine ⟨by rw [sizeLine_eq, enI, List.length_map]; omega, ?_⟩
            walk_at "go"
            exact ⟨_, _, _, ms ++ [c % 2147483629], rfl, by simp only [enI_snoc]; rfl, dr_snoc hd (by omega) (by omega), by rw [List.length_append]; simp; omega⟩
          · walk_at "go"
            exact ⟨_, _, _, ms, rfl, rfl, hd, by omega⟩
        refine br_i (fun hc => ?_) fun hc => ?_
        · walk_at "go"
          refine br_i (fun hc2 => ?_) fun hc2 => ?_
          · have hl2 : ms.length < 900 := by
              have := of_decide_eq_true hc2
              unfold enI at this; rw [List.length_map] at this; omega
            have hcc := of_decide_eq_true hc
            have hcc : 1000000000000000000 ≤ c := hcc
            walk_at "go"
            refine ⟨by rw [sizeLine_eq, enI, List.length_map]; omega, ?_⟩
            walk_at "go"
            exact ⟨_, (show (c / 2147483629).toNat < n by omega), _, ms ++ [c % 2147483629], _, rfl, by simp only [enI_snoc]; rfl, dr_snoc hd (by omega) (by omega), by rw [List.length_append]; simp; omega, by omega, Nat.le_refl _⟩
          · exact done _ _
        · refine br_no rfl ?_
          exact done _ _
      refine br_i (fun hc => ?_) fun hc => ?_
      · walk_at "go"
        refine for_i (WDrawsF ns (913 * i) (.int (0 + (i : Int))) (.int c)) ⟨_, ms, rfl, rfl, hd, by omega⟩ (fun _ _ _ _ _ => trivial) ?_ ?_
        · rintro j x _ _ hx ⟨x4, ms, rfl, rfl, hd, hl⟩
          obtain ⟨hj, rfl⟩ := rng_get hx
          have hj : j < 12 := hj
          walk_at "go"
          refine call0 rfl ⟨by omega, fun n h1 h2 => back0 rfl ?_⟩
          walk_at "go"
          refine call0 rfl ⟨by omega, fun n2 h3 h4 => back0 rfl ?_⟩
          walk_at "go"
          refine ⟨by rw [sizeLine_eq, enI, List.length_map]; omega, ?_⟩
          walk_at "go"
          exact ⟨_, ms ++ [n2], rfl, by simp only [enI_snoc]; rfl, dr_snoc hd h3 (by omega), by rw [List.length_append]; simp; omega⟩
        · rintro _ _ ⟨x4, ms, rfl, rfl, hd, hl⟩
          have hl : ms.length ≤ 913 * i + 12 := hl
          walk_at "go"
          exact tail _ ms hd (by omega) _ _
      · exact tail _ ms hd (by omega) _ _
    · rintro _ _ ⟨x2, x3, x4, ms, rfl, rfl, hd, hl⟩
      walk_at "go"
      exact fin0n rfl (enI_wf ms) (q ms hd)
  · exact h.elim

/-- an odd thing: no name, no type -/
def ok1 (d : D) : Bool := wfD 0 d && (match d with | .ty _ => false | .tw _ => false | _ => true)
def isNum : D → Bool
  | .int _ => true
  | _ => false

def sp_is_number : DSp := fun ds G Q => match ds, G with
  | [d], [] => ok1 d = true ∧ Q (.bl (isNum d)) []
  | _, _ => False
def N_is_number : List Str := ["thing"]
def ir_is_number : List S :=
  [.ret (.and (.bi .isi [(.var 0), (.tyc .int)]) (.nt (.bi .isi [(.var 0), (.tyc .bool)])))]
theorem ck_is_number : defOk N_is_number ["thing"] ["isinstance", "bool", "int"] ir_is_number (topS 1) = true := by decide +kernel
-- slots: 0=thing | bi: isinstance bool int | calls:  | cons: 
theorem ks_is_number : Keeps 1 ir_is_number N_is_number sp_is_number := by
  intro ds G Q h
  unfold sp_is_number at h
  split at h
  · obtain ⟨hd, q⟩ := h
    rename_i d
    refine ⟨rfl, ?_⟩
    cases d with
    | ty n => cases hd
    | tw n => cases hd
    | ref n => cases hd
    | _ =>
      walk_at "go"
      exact fin0 rfl rfl q
  · exact h.elim

def fromB (lo hi : Int) : D → Bool
  | .int i => decide (lo ≤ i) && decide (i ≤ hi)
  | _ => false

def sp_is_from : DSp := fun ds G Q => match ds, G with
  | [d, .int lo, .int hi], [] => ok1 d = true ∧ Q (.bl (fromB lo hi d)) []
  | _, _ => False
def N_is_from : List Str := ["thing", "low", "high"]
def ir_is_from : List S :=
  [.ret (.and (.call "is_number" sp_is_number [(.var 0)]) (.chain .LtE .LtE (.var 1) (.var 0) (.var 2)))]
theorem ck_is_from : defOk N_is_from ["thing", "low", "high"] [] ir_is_from (topS 2) = true := by decide +kernel
-- slots: 0=thing 1=low 2=high | bi:  | calls: is_number | cons: 
theorem ks_is_from : Keeps 3 ir_is_from N_is_from sp_is_from := by
  intro ds G Q h
  unfold sp_is_from at h
  split at h
  · obtain ⟨hd, q⟩ := h
    rename_i d lo hi
    refine ⟨rfl, ?_⟩
    have hc : wfL 0 [d] = true := by
      have := (Bool.and_eq_true_iff.mp hd).1
      exact wfL_cons this rfl
    walk_at "go"
    refine call0 hc ⟨hd, back0 rfl ?_⟩
    cases d with
    | int i =>
      walk_at "go"
      refine br_i (fun h => ?_) fun h => ?_
      · walk_at "go"
        refine fin0 rfl rfl ?_
        have e : fromB lo hi (.int i) = decide (i ≤ hi) := by simp [fromB, h]
        exact e ▸ q
      · refine fin0 rfl rfl ?_
        have e : fromB lo hi (.int i) = false := by simp [fromB, h]
        exact e ▸ q
    | _ =>
      refine br_no rfl ?_
      exact fin0 rfl rfl q
  · exact h.elim

theorem enT_at {ts : List Tie} {k : Int} {t : Tie} (h0 : 0 ≤ k) (h : ts[k.toNat]? = some t) : atI (enT ts) k = some t.d := atI_nat h0 (by rw [enT, List.getElem?_map, h]; rfl)

def sp_ends_of : DSp := fun ds G Q => match ds, G with
  | [w, .int k], [] => ∃ web t, w = Web.d web ∧ 0 ≤ k ∧ web.ts[k.toNat]? = some t ∧ Q (.tup [.int t.a, .int t.b]) []
  | _, _ => False
def N_ends_of : List Str := ["web", "tie"]
def ir_ends_of : List S :=
  [.ret (.slc (.sub (.sub (.var 0) (.lit (.int 1))) (.var 1)) none (some (.lit (.int 2))))]
theorem ck_ends_of : defOk N_ends_of ["web", "tie"] [] ir_ends_of (topS 4) = true := by decide +kernel
-- slots: 0=web 1=tie | bi:  | calls:  | cons: 
theorem ks_ends_of : Keeps 2 ir_ends_of N_ends_of sp_ends_of := by
  intro ds G Q h
  unfold sp_ends_of at h
  split at h
  · obtain ⟨web, t, rfl, h0, ht, q⟩ := h
    refine ⟨rfl, ?_⟩
    walk_at "go"
    refine ⟨_, enT_at h0 ht, ?_⟩
    walk_at "go"
    exact fin0 rfl rfl q
  · exact h.elim

def bix {α : Type} (ts : List α) (g : α → Bool) (i : Nat) : Bool := match ts[i]? with
  | some t => g t
  | none => false
theorem bix_map {α : Type} (ts : List α) (g : α → Bool) : (List.range ts.length).map (bix ts g) = ts.map g := by
  apply List.ext_getElem (by simp)
  intro i h1 h2
  have h3 : i < ts.length := by simpa using h2
  simp [bix, h3]
theorem bix_any {α : Type} (ts : List α) (g : α → Bool) : ((List.range ts.length).map (bix ts g)).any id = ts.any g := by
  rw [bix_map, List.any_map]; rfl
theorem bix_all {α : Type} (ts : List α) (g : α → Bool) : ((List.range ts.length).map (bix ts g)).all id = ts.all g := by
  rw [bix_map, List.all_map]; rfl
theorem enT_len (ts : List Tie) : (enT ts).length = ts.length := List.length_map ..
theorem enI_len (ts : List Int) : (enI ts).length = ts.length := List.length_map ..
def tiedB (w : Web) (a b : Int) : Bool := w.ts.any fun t => decide (t.a = if b < a then b else a) && decide (t.b = if b > a then b else a)

theorem eq_pair (a b c d : Int) : eqD (.tup [.int a, .int b]) (.tup [.int c, .int d]) = (decide (a = c) && decide (b = d)) := by
  simp only [eqD, toP, toPs, PyData.eqv, PyData.eqvAll, Bool.and_true]
  rfl

/-- what may stand in a row or be handed in -/
structure Any (d : D) : Prop where
  o : ok1 d = true
  r : ∀ xs, d = .tup xs → xs.length ≤ 4000 ∧ ∀ x ∈ xs, ok1 x = true
theorem ok1_wf {d : D} (h : ok1 d = true) : wfD 0 d = true := (Bool.and_eq_true_iff.mp h).1
def fromI (n : Int) : D → Option Int
  | .int i => if 0 ≤ i ∧ i < n then some i else none
  | _ => none
def fromL (n : Int) : List D → Option (List Int)
  | [] => some []
  | d :: ds => match fromI n d, fromL n ds with
    | some i, some is => some (i :: is)
    | _, _ => none
theorem fromB_I (n : Int) (d : D) : fromB 0 (n - 1) d = (fromI n d).isSome := by
  cases d <;> first
    | rfl
    | (rename_i i
       show (decide (0 ≤ i) && decide (i ≤ n - 1)) = (if 0 ≤ i ∧ i < n then some i else none).isSome
       by_cases h : 0 ≤ i ∧ i < n
       · rw [if_pos h, decide_eq_true h.1, decide_eq_true (by omega)]; rfl
       · rw [if_neg h]
         by_cases h0 : 0 ≤ i
         · rw [decide_eq_true h0, decide_eq_false (by omega)]; rfl
         · rw [decide_eq_false h0]; rfl)
theorem fromL_all (n : Int) : ∀ ds : List D, ds.all (fromB 0 (n - 1)) = (fromL n ds).isSome
  | [] => rfl
  | d :: ds => by
    rw [List.all_cons, fromB_I, fromL_all n ds, fromL]
    cases fromI n d <;> cases fromL n ds <;> rfl
theorem fromL_some {n : Int} : ∀ {ds : List D} {ns : List Int}, fromL n ds = some ns → ds = enI ns ∧ ∀ i ∈ ns, 0 ≤ i ∧ i < n
  | [], ns, h => by cases h; exact ⟨rfl, fun i hi => absurd hi (by simp)⟩
  | d :: ds, ns, h => by
    unfold fromL at h
    cases e1 : fromI n d with
    | none => rw [e1] at h; cases h
    | some i =>
      cases e2 : fromL n ds with
      | none => rw [e1, e2] at h; cases h
      | some is =>
        rw [e1, e2] at h
        cases h
        obtain ⟨a, b⟩ := fromL_some e2
        cases d <;> first
          | (exact absurd (show (none : Option Int) = some i from e1) (by simp))
          | (rename_i j
             have e1 : (if 0 ≤ j ∧ j < n then some j else none) = some i := e1
             split at e1
             · cases e1
               refine ⟨by rw [a]; rfl, fun k hk => ?_⟩
               rcases List.mem_cons.mp hk with rfl | hk
               · assumption
               · exact b k hk
             · cases e1)
def rowOf (n : Int) : D → Option (List Int)
  | .tup xs => fromL n xs
  | _ => none
def unlikeB (n : Int) (d : D) : Bool := match rowOf n d with
  | some ns => decide ns.Nodup
  | none => false

local macro_rules | `(tactic| walk_at "side") => `(tactic| first | rfl | (exact And.intro rfl (Exists.intro _ rfl)) | (exact Exists.intro _ rfl) | assumption | omega | (exact mul_r (by omega) (by omega)) | (exact mul_l (by omega) (by omega)) | (exact div_c (by omega) (by omega)) | (exact sl_le (by first | (simp; done) | (simp; omega))) | (exact ⟨by omega, by omega, by omega⟩))
local macro_rules | `(tactic| walk_at "go") => `(tactic| ((repeat ((conv => whnf); first | refine And.intro (by walk_at "side") ?_ | refine Or.inl (And.intro (by walk_at "side") ?_) | refine br_yes (by first | rfl | assumption) ?_ | refine br_no (by first | rfl | assumption) ?_ | refine Exists.intro _ (And.intro rfl ?_) | refine Exists.intro _ (Exists.intro _ (And.intro rfl (And.intro rfl ?_))))); (conv => whnf)))
local macro_rules | `(tactic| walk_at "each") => `(tactic| refine ix_all (by omega) (by simp; omega) ?_ <;> repeat' first | exact all_nil | refine all_cons ?_ ?_)
local macro_rules | `(tactic| walk_at "nx") => `(tactic| refine call1 rfl (enI_wf _) rfl ⟨_, rfl, (by assumption), fun n ns' hn hn' hd' => back1 rfl (enI_wf _) ?_⟩)
def atR (ns : List Int) (k : Int) : Int := (atI ns k).getD 0
theorem atI_map {ns : List Int} {k : Int} : atI (enI ns) k = (atI ns k).map D.int := by
  unfold atI
  rw [enI_len]
  cases ixN ns.length k with
  | none => rfl
  | some j => show (enI ns)[j]? = _; rw [enI, List.getElem?_map]; rfl
theorem atR_some {ns : List Int} {k : Int} (h0 : -(ns.length : Int) ≤ k) (h1 : k < ns.length) : atI ns k = some (atR ns k) := by
  have e : ∃ j, ixN ns.length k = some j ∧ j < ns.length := by
    unfold ixN
    by_cases h : 0 ≤ k
    · exact ⟨k.toNat, by rw [if_pos h, if_pos h1], by omega⟩
    · exact ⟨(k + ns.length).toNat, by rw [if_neg h, if_pos h0], by omega⟩
  obtain ⟨j, e, hj⟩ := e
  unfold atR atI
  rw [e]
  show ns[j]? = some ((ns[j]?).getD 0)
  rw [List.getElem?_eq_getElem hj]; rfl
theorem atD {ns : List Int} {k : Int} (h0 : -(ns.length : Int) ≤ k) (h1 : k < ns.length) : atI (enI ns) k = some (.int (atR ns k)) := by
  rw [atI_map, atR_some h0 h1]; rfl
theorem atR_mem {ns : List Int} {k : Int} (h0 : -(ns.length : Int) ≤ k) (h1 : k < ns.length) : atR ns k ∈ ns := by
  have e := atR_some h0 h1
  unfold atI at e
  cases e2 : ixN ns.length k with
  | none => rw [e2] at e; cases e
  | some j => rw [e2] at e; exact List.mem_of_getElem? e
def ringL (w : Web) (ns : List Int) : Bool := decide ns.Nodup && (decide (3 ≤ ns.length) && (decide (ns.length % 2 = 1) && (List.range ns.length).all fun k => tiedB w (atR ns ((k : Int) - 1)) (atR ns (k : Int))))
def ringB (w : Web) (d : D) : Bool := match rowOf w.n d with
  | some ns => ringL w ns
  | none => false
theorem unlike_some {n : Int} {d : D} (h : unlikeB n d = true) : ∃ ns, d = .tup (enI ns) ∧ fromL n (enI ns) = some ns ∧ ns.Nodup ∧ ∀ i ∈ ns, 0 ≤ i ∧ i < n := by
  unfold unlikeB at h
  cases d with
  | tup xs =>
    have h2 : (match fromL n xs with | some ns => decide ns.Nodup | none => false) = true := h
    clear h
    cases e : fromL n xs with
    | none => rw [e] at h2; cases h2
    | some ns =>
      rw [e] at h2
      obtain ⟨rfl, hb⟩ := fromL_some e
      exact ⟨ns, rfl, e, of_decide_eq_true h2, hb⟩
  | _ => cases h
theorem ring_no {w : Web} {d : D} (h : unlikeB w.n d = false) : ringB w d = false := by
  unfold unlikeB at h
  unfold ringB ringL
  cases e : rowOf w.n d with
  | none => rfl
  | some ns => rw [e] at h; simp only [h, Bool.false_and]
theorem ring_yes {w : Web} {ns : List Int} (e : fromL w.n (enI ns) = some ns) : ringB w (.tup (enI ns)) = ringL w ns := by
  show (match fromL w.n (enI ns) with | some ns => ringL w ns | none => false) = _
  rw [e]

def sp_L_says : DSp := fun ds G Q => match ds, G with
  | [.bl a, .bl b], [] => Q (.bl (decide (a = b))) []
  | _, _ => False
def N_L_says : List Str := ["_law_found", "_law_due"]
def ir_L_says : List S :=
  [.iff (.tru (.var 1)) [.ret (.cmp .Is (.var 0) (.lit (.bl true)))] [], .ret (.cmp .Is (.var 0) (.lit (.bl false)))]
theorem ck_L_says : defOk N_L_says ["_law_found", "_law_due"] [] ir_L_says (topS 19) = true := by decide +kernel
-- slots: 0=_law_found 1=_law_due | bi:  | calls:  | cons: 
theorem ks_L_says : Keeps 2 ir_L_says N_L_says sp_L_says := by
  intro ds G Q h
  unfold sp_L_says at h
  split at h
  · rename_i a b
    refine ⟨rfl, ?_⟩
    cases b with
    | true => walk_at "go"; exact fin0 rfl rfl h
    | false => walk_at "go"; exact fin0 rfl rfl h
  · exact h.elim

def matesL (x : Int) : List Tie → List Int
  | [] => []
  | t :: ts => (if x = t.a then [t.b] else []) ++ ((if x = t.b then [t.a] else []) ++ matesL x ts)
theorem mates_app (x : Int) : ∀ (l m : List Tie), matesL x (l ++ m) = matesL x l ++ matesL x m
  | [], m => rfl
  | t :: l, m => by rw [List.cons_append, matesL, matesL, mates_app x l m]; simp
theorem mates_len (x : Int) : ∀ (l : List Tie), (matesL x l).length ≤ 2 * l.length
  | [] => Nat.zero_le _
  | t :: l => by
    have := mates_len x l
    rw [matesL, List.length_append, List.length_append, List.length_cons]
    split <;> split <;> simp <;> omega
theorem mates_mem {x y : Int} : ∀ {l : List Tie}, y ∈ matesL x l ↔ ∃ t ∈ l, (x = t.a ∧ y = t.b) ∨ (x = t.b ∧ y = t.a)
  | [] => by simp [matesL]
  | t :: l => by
    rw [matesL, List.mem_append, List.mem_append, mates_mem (l := l)]
    constructor
    · rintro (h | h | ⟨u, hu, h⟩)
      · split at h
        · exact ⟨t, List.mem_cons_self, .inl ⟨by assumption, by simpa using h⟩⟩
        · simp at h
      · split at h
        · exact ⟨t, List.mem_cons_self, .inr ⟨by assumption, by simpa using h⟩⟩
        · simp at h
      · exact ⟨u, List.mem_cons_of_mem _ hu, h⟩
    · rintro ⟨u, hu, h⟩
      rcases List.mem_cons.mp hu with rfl | hu
      · rcases h with ⟨h1, h2⟩ | ⟨h1, h2⟩
        · left; rw [if_pos h1, h2]; exact List.mem_cons_self
        · right; left; rw [if_pos h1, h2]; exact List.mem_cons_self
      · exact .inr (.inr ⟨u, hu, h⟩)
theorem tied_mates {w : Web} {n x y : Int} (h : ∀ t ∈ w.ts, TieOk n t) : tiedB w x y = decide (y ∈ matesL x w.ts) := by
  unfold tiedB
  rw [Bool.eq_iff_iff, List.any_eq_true, decide_eq_true_iff, mates_mem]
  constructor
  · rintro ⟨t, ht, e⟩
    rw [Bool.and_eq_true, decide_eq_true_iff, decide_eq_true_iff] at e
    refine ⟨t, ht, ?_⟩
    have := (h t ht).2.1
    by_cases hxy : y < x
    · rw [if_pos hxy, if_neg (by omega)] at e; right; omega
    · rw [if_neg hxy] at e
      by_cases h2 : y > x
      · rw [if_pos h2] at e; left; omega
      · rw [if_neg h2] at e; omega
  · rintro ⟨t, ht, e⟩
    refine ⟨t, ht, ?_⟩
    have := (h t ht).2.1
    rw [Bool.and_eq_true, decide_eq_true_iff, decide_eq_true_iff]
    rcases e with ⟨rfl, rfl⟩ | ⟨rfl, rfl⟩
    · rw [if_neg (by omega), if_pos (by omega)]; exact ⟨rfl, rfl⟩
    · rw [if_pos (by omega), if_neg (by omega)]; exact ⟨rfl, rfl⟩

theorem memD_ints (a : Int) : ∀ (l : List Int), memD (.int a) (enI l) = decide (a ∈ l)
  | [] => rfl
  | b :: l => by
    show (eqD (.int b) (.int a) || memD (.int a) (enI l)) = _
    rw [memD_ints a l]
    have : eqD (.int b) (.int a) = decide (b = a) := by simp only [eqD, toP, PyData.eqv]; rfl
    rw [this]
    by_cases h : b = a
    · subst h; simp
    · simp [h, Ne.symm h]
theorem flat_ints (l : List Int) : (enI l).all flatD = true := by
  unfold enI; rw [List.all_map]; exact List.all_eq_true.mpr fun _ _ => rfl
theorem filter_none (n : Int) : ∀ ds : List D, (ds.filter fun x => (fromI n x).isNone).isEmpty = (fromL n ds).isSome
  | [] => rfl
  | d :: ds => by
    have ih := filter_none n ds
    rw [fromL, List.filter_cons]
    cases h : fromI n d with
    | none => rfl
    | some i =>
      show (ds.filter _).isEmpty = _
      rw [ih]
      cases fromL n ds <;> rfl
theorem filter_twice (ns : List Int) : (ns.filter fun a => decide ((ns.count a : Int) > 1)).isEmpty = decide ns.Nodup := by
  rw [Bool.eq_iff_iff, decide_eq_true_iff, List.isEmpty_iff, List.filter_eq_nil_iff, List.nodup_iff_count]
  constructor
  · intro h a
    by_cases ha : a ∈ ns
    · have := h a ha; simp at this; omega
    · rw [List.count_eq_zero_of_not_mem ha]; omega
  · intro h a ha
    have := h a
    simp; omega
theorem filter_empty {α : Type} (p : α → Bool) (l : List α) : (l.filter p).isEmpty = l.all fun a => !p a := by
  induction l with
  | nil => rfl
  | cons a l ih =>
    rw [List.filter_cons, List.all_cons, ← ih]
    cases p a <;> rfl

theorem ring_row {w : Web} {xs : List D} : ringB w (.tup xs) = match fromL w.n xs with | some ns => ringL w ns | none => false := rfl
theorem ring_few {w : Web} {d : D} (h : ∀ xs, d = .tup xs → xs.length < 3 ∨ xs.length % 2 = 0) : ringB w d = false := by
  cases d with
  | tup xs =>
    rw [ring_row]
    cases e : fromL w.n xs with
    | none => rfl
    | some ns =>
      obtain ⟨rfl, _⟩ := fromL_some e
      have h := h _ rfl
      rw [enI_len] at h
      show ringL w ns = false
      unfold ringL
      rcases h with h | h
      · rw [decide_eq_false (show ¬ 3 ≤ ns.length by omega)]; simp
      · rw [decide_eq_false (show ¬ ns.length % 2 = 1 by omega)]; simp
  | _ => rfl

local macro_rules | `(tactic| walk_at "side") => `(tactic| first | rfl | (exact And.intro rfl (Exists.intro _ rfl)) | (exact Exists.intro _ rfl) | assumption | omega | (exact mul_r (by omega) (by omega)) | (exact mul_l (by omega) (by omega)) | (exact div_c (by omega) (by omega)) | (exact sl_le (by first | (simp; done) | (simp; omega))) | (exact ⟨by omega, by omega, by omega⟩))
local macro_rules | `(tactic| walk_at "go") => `(tactic| ((repeat ((conv => whnf); first | refine And.intro (by walk_at "side") ?_ | refine Or.inl (And.intro (by walk_at "side") ?_) | refine br_yes (by first | rfl | assumption) ?_ | refine br_no (by first | rfl | assumption) ?_ | refine Exists.intro _ (And.intro rfl ?_) | refine Exists.intro _ (Exists.intro _ (And.intro rfl (And.intro rfl ?_))))); (conv => whnf)))
local macro_rules | `(tactic| walk_at "each") => `(tactic| refine ix_all (by omega) (by simp; omega) ?_ <;> repeat' first | exact all_nil | refine all_cons ?_ ?_)
local macro_rules | `(tactic| walk_at "nx") => `(tactic| refine call1 rfl (enI_wf _) rfl ⟨_, rfl, (by assumption), fun n ns' hn hn' hd' => back1 rfl (enI_wf _) ?_⟩)

theorem rangeI_nodup (n : Int) : (rangeI 0 n).Nodup := by
  unfold rangeI
  unfold List.Nodup
  rw [List.pairwise_map]
  exact List.Pairwise.imp (fun h e => h (by omega)) (List.nodup_range (n := (n - 0).toNat))
theorem erase_perm : ∀ (l : List Int) (j : Nat) (hj : j < l.length), (l[j] :: l.eraseIdx j).Perm l
  | a :: l, 0, _ => List.Perm.refl _
  | a :: l, j + 1, h => by
    have := erase_perm l j (by simpa using h)
    exact (List.Perm.swap a _ _).trans (List.Perm.cons a this)
theorem nodup_take {left names : List Int} {j : Nat} {y : Int} (h : (names ++ left).Nodup) (e : left[j]? = some y) : ((names ++ [y]) ++ left.eraseIdx j).Perm (names ++ left) := by
  obtain ⟨hj, rfl⟩ := List.getElem?_eq_some_iff.mp e
  rw [List.append_assoc]
  exact List.Perm.append_left names (erase_perm left j hj)
theorem rangeI_mem {n x : Int} (h : x ∈ rangeI 0 n) : 0 ≤ x ∧ x < n := by
  unfold rangeI at h
  obtain ⟨i, hi, rfl⟩ := List.mem_map.mp h
  have := List.mem_range.mp hi
  omega
theorem rangeI_len (n : Int) : (rangeI 0 n).length = n.toNat := by
  unfold rangeI; rw [List.length_map, List.length_range]; simp
theorem names_ne {names : List Int} {a b : Int} (nd : names.Nodup) (h0 : 0 ≤ a) (hab : a < b) (hb : b < names.length) : atR names a ≠ atR names b := by
  have e1 := atR_some (ns := names) (k := a) (by omega) (by omega)
  have e2 := atR_some (ns := names) (k := b) (by omega) (by omega)
  unfold atI ixN at e1 e2
  rw [if_pos (by omega), if_pos (by omega)] at e1 e2
  intro e
  rw [e] at e1
  obtain ⟨h1, g1⟩ := List.getElem?_eq_some_iff.mp (show names[a.toNat]? = some (atR names b) from e1)
  obtain ⟨h2, g2⟩ := List.getElem?_eq_some_iff.mp (show names[b.toNat]? = some (atR names b) from e2)
  have := (List.getElem_inj nd).mp (g1.trans g2.symm)
  omega
theorem popI {left : List Int} {j : Int} {K : D → Nat → Prop} (h0 : 0 ≤ j) (h1 : j < left.length) (hk : ∀ k y, left[k]? = some y → K (.int y) k) : ∃ k y, seqIndex? j (enI left).length = some k ∧ (enI left)[k]? = some y ∧ K y k := by
  have hl : j.toNat < left.length := by omega
  refine ⟨j.toNat, .int left[j.toNat], ?_, ?_, hk _ _ (List.getElem?_eq_getElem hl)⟩
  · rw [enI_len]
    exact (ixN_seq (show ixN left.length j = some j.toNat by unfold ixN; rw [if_pos h0, if_pos h1])).1
  · rw [enI, List.getElem?_map, List.getElem?_eq_getElem hl]; rfl
theorem enI_erase : ∀ (l : List Int) (k : Nat), (enI l).eraseIdx k = enI (l.eraseIdx k)
  | [], k => by simp [enI]
  | a :: l, 0 => rfl
  | a :: l, k + 1 => congrArg (D.int a :: ·) (enI_erase l k)

local macro_rules | `(tactic| walk_at "side") => `(tactic| first | rfl | (exact And.intro rfl (Exists.intro _ rfl)) | (exact Exists.intro _ rfl) | assumption | omega | (exact mul_r (by omega) (by omega)) | (exact mul_l (by omega) (by omega)) | (exact div_c (by omega) (by omega)) | (exact sl_le (by first | (simp; done) | (simp; omega))) | (exact ⟨by omega, by omega, by omega⟩) | (simp only [sizeLine_eq]; omega) | (simp; done))
local macro_rules | `(tactic| walk_at "go") => `(tactic| ((repeat ((conv => whnf); first | refine And.intro (by walk_at "side") ?_ | refine Or.inl (And.intro (by walk_at "side") ?_) | refine br_yes (by first | rfl | assumption) ?_ | refine br_no (by first | rfl | assumption) ?_ | refine Exists.intro _ (And.intro rfl ?_) | refine Exists.intro _ (Exists.intro _ (And.intro rfl (And.intro rfl ?_))))); (conv => whnf)))
local macro_rules | `(tactic| walk_at "each") => `(tactic| refine ix_all (by omega) (by simp; omega) ?_ <;> repeat' first | exact all_nil | refine all_cons ?_ ?_)
local macro_rules | `(tactic| walk_at "nx") => `(tactic| refine call1 rfl (enI_wf _) rfl ⟨_, rfl, (by assumption), fun n ns' hn hn' hd' => back1 rfl (enI_wf _) ?_⟩)

theorem cut_all (ts : List Tie) (m : Int) (h : 0 ≤ m) : DL.cutD (enT ts) none (some m) = enT (ts.take m.toNat) := by
  unfold DL.cutD HT.sIx
  show ((enT ts).drop 0).take ((if m < 0 then _ else min m.toNat (enT ts).length) - 0) = _
  rw [if_neg (by omega), List.drop_zero, Nat.sub_zero]
  unfold enT
  rw [List.map_take, List.length_map]
  by_cases h2 : m.toNat ≤ ts.length
  · rw [Nat.min_eq_left h2]
  · rw [Nat.min_eq_right (by omega), List.take_of_length_le (by rw [List.length_map]; exact Nat.le_refl _), List.take_of_length_le (by rw [List.length_map]; omega)]
theorem enT_app (a b : List Tie) : enT a ++ enT b = enT (a ++ b) := List.map_append.symm

local macro_rules | `(tactic| walk_at "side") => `(tactic| first | rfl | (exact And.intro rfl (Exists.intro _ rfl)) | (exact Exists.intro _ rfl) | assumption | omega | (exact mul_r (by omega) (by omega)) | (exact mul_l (by omega) (by omega)) | (exact div_c (by omega) (by omega)) | (exact sl_le (by first | (simp; done) | (simp; omega))) | (exact ⟨by omega, by omega, by omega⟩) | (simp only [sizeLine_eq]; omega) | (simp; done) | (exact Or.inl ⟨rfl, flat_ints _⟩))
local macro_rules | `(tactic| walk_at "go") => `(tactic| ((repeat ((conv => whnf); first | refine And.intro (by walk_at "side") ?_ | refine Or.inl (And.intro (by walk_at "side") ?_) | refine br_yes (by first | rfl | assumption) ?_ | refine br_no (by first | rfl | assumption) ?_ | refine Exists.intro _ (And.intro rfl ?_) | refine Exists.intro _ (Exists.intro _ (And.intro rfl (And.intro rfl ?_))))); (conv => whnf)))
local macro_rules | `(tactic| walk_at "each") => `(tactic| refine ix_all (by omega) (by simp; omega) ?_ <;> repeat' first | exact all_nil | refine all_cons ?_ ?_)
local macro_rules | `(tactic| walk_at "nx") => `(tactic| refine call1 rfl (enI_wf _) rfl ⟨_, rfl, (by assumption), fun n ns' hn hn' hd' => back1 rfl (enI_wf _) ?_⟩)
structure WWalk (w : Web) (n : Nat) (ρ : DSt) (G : DHp) : Prop where
  h : ∃ x4 ns here found, ρ = [some (.ref 0), some w.d, some (.int here), some (.ref 1), x4] ∧ G = [.lst (enI ns), .lst (enI found)] ∧ Dr ns ∧ found.Nodup ∧ (∀ x ∈ found, 0 ≤ x ∧ x < w.n) ∧ 0 ≤ here ∧ here < w.n ∧ w.n.toNat + 1 ≤ n + found.length

theorem nodup_bound {l : List Int} {n : Int} (nd : l.Nodup) (h : ∀ x ∈ l, 0 ≤ x ∧ x < n) : l.length ≤ n.toNat := by
  have := nodup_sub_len l (rangeI 0 n) nd fun x hx => by
    have hb := h x hx
    unfold rangeI
    exact List.mem_map.mpr ⟨x.toNat, List.mem_range.mpr (by omega), by omega⟩
  rwa [rangeI_len] at this
theorem mates_in {w : Web} {x y : Int} (h : ∀ t ∈ w.ts, TieOk w.n t) (hy : y ∈ matesL x w.ts) : 0 ≤ y ∧ y < w.n := by
  obtain ⟨t, ht, e⟩ := mates_mem.mp hy
  have ok := h t ht
  have := ok.1; have := ok.2.1; have := ok.2.2.1
  rcases e with ⟨_, rfl⟩ | ⟨_, rfl⟩ <;> omega
theorem indexI {l : List Int} {x : Int} (h : x ∈ l) : ∃ j : Nat, l[j]? = some x ∧ (∀ m : Nat, m < j → l[m]? ≠ some x) := by
  induction l with
  | nil => simp at h
  | cons a l ih =>
    by_cases e : a = x
    · exact ⟨0, by rw [e]; rfl, fun m hm => absurd hm (Nat.not_lt_zero _)⟩
    · obtain ⟨j, h1, h2⟩ := ih ((List.mem_cons.mp h).resolve_left (Ne.symm e))
      refine ⟨j + 1, by simpa using h1, fun m hm => ?_⟩
      cases m with
      | zero => simpa using e
      | succ m => simpa using h2 m (by omega)
theorem eq_ii (a b : Int) : eqD (.int a) (.int b) = decide (a = b) := by simp only [eqD, toP, PyData.eqv]; rfl
theorem indexM_ints {G : DHp} {l : List Int} {x : Int} {K : Nat → Prop} {d : D} (hd : listOf G d = some (enI l)) (h : x ∈ l) (q : ∀ j : Nat, j < l.length → K j) : ∃ xs j z, listOf G d = some xs ∧ flatD (.int x) = true ∧ xs.all flatD = true ∧ xs[j]? = some z ∧ eqD z (.int x) = true ∧ (∀ (m : Nat) z', m < j → xs[m]? = some z' → eqD z' (.int x) = false) ∧ K j := by
  obtain ⟨j, h1, h2⟩ := indexI h
  refine ⟨enI l, j, .int x, hd, rfl, flat_ints l, ?_, by rw [eq_ii]; exact decide_eq_true rfl, fun m z' hm hz => ?_, q j (List.getElem?_eq_some_iff.mp h1).1⟩
  · rw [enI, List.getElem?_map, h1]; rfl
  · rw [enI, List.getElem?_map] at hz
    cases e : l[m]? with
    | none => rw [e] at hz; cases hz
    | some a =>
      rw [e] at hz
      cases hz
      rw [eq_ii]
      exact decide_eq_false fun e2 => h2 m hm (by rw [e, e2])
theorem cut_ints (l : List Int) (lo hi : Option Int) : ∃ m : List Int, DL.cutD (enI l) lo hi = enI m ∧ m.length ≤ l.length ∧ ∀ x ∈ m, x ∈ l := by
  refine ⟨(l.drop (HT.sIx l.length 0 lo)).take (HT.sIx l.length l.length hi - HT.sIx l.length 0 lo), ?_, ?_, fun x hx => List.mem_of_mem_drop (List.mem_of_mem_take hx)⟩
  · unfold DL.cutD enI
    rw [List.length_map, List.map_take, List.map_drop]
  · rw [List.length_take, List.length_drop]; omega

local macro_rules | `(tactic| walk_at "side") => `(tactic| first | rfl | (exact And.intro rfl (Exists.intro _ rfl)) | (exact Exists.intro _ rfl) | assumption | omega | (exact mul_r (by omega) (by omega)) | (exact mul_l (by omega) (by omega)) | (exact div_c (by omega) (by omega)) | (exact sl_le (by first | (simp; done) | (simp; omega))) | (exact ⟨by omega, by omega, by omega⟩) | (simp only [sizeLine_eq]; omega) | (simp; done) | (exact Or.inl ⟨rfl, flat_ints _⟩))
local macro_rules | `(tactic| walk_at "go") => `(tactic| ((repeat ((conv => whnf); first | refine And.intro (by walk_at "side") ?_ | refine Or.inl (And.intro (by walk_at "side") ?_) | refine br_yes (by first | rfl | assumption) ?_ | refine br_no (by first | rfl | assumption) ?_ | refine Exists.intro _ (And.intro rfl ?_) | refine Exists.intro _ (Exists.intro _ (And.intro rfl (And.intro rfl ?_))))); (conv => whnf)))
local macro_rules | `(tactic| walk_at "each") => `(tactic| refine ix_all (by omega) (by simp; omega) ?_ <;> repeat' first | exact all_nil | refine all_cons ?_ ?_)
local macro_rules | `(tactic| walk_at "nx") => `(tactic| refine call1 rfl (enI_wf _) rfl ⟨_, rfl, (by assumption), fun n ns' hn hn' hd' => back1 rfl (enI_wf _) ?_⟩)
def anyB (d : D) : Bool := ok1 d && (match d with | .tup xs => decide (xs.length ≤ 4000) && xs.all ok1 | _ => true)
theorem any_of {d : D} (h : anyB d = true) : Any d := by
  unfold anyB at h
  rw [Bool.and_eq_true] at h
  refine ⟨h.1, fun xs e => ?_⟩
  subst e
  have h2 := h.2
  simp only [Bool.and_eq_true, decide_eq_true_iff, List.all_eq_true] at h2
  exact h2
structure RowL (k : Nat) (xs : List D) : Prop where
  l : xs.length ≤ k
  o : ∀ x ∈ xs, ok1 x = true
theorem RowL.any {k : Nat} {xs : List D} (h : RowL k xs) (hk : k ≤ 4000) : Any (.tup xs) := by
  refine ⟨?_, fun ys e => ?_⟩
  · have : wfL 0 xs = true := wfL_iff.mpr fun d hd => ok1_wf (h.o d hd)
    show (wfL 0 xs && true) = true
    rw [this]; rfl
  · cases e; exact ⟨Nat.le_trans h.l hk, h.o⟩
theorem RowL.ints {k : Nat} (row : List Int) (h : row.length ≤ k) : RowL k (enI row) := ⟨by rw [enI_len]; exact h, fun x hx => by
  obtain ⟨i, _, rfl⟩ := List.mem_map.mp hx
  rfl⟩
theorem RowL.cut {k : Nat} {xs : List D} (h : RowL k xs) (lo hi : Option Int) : RowL k (DL.cutD xs lo hi) := ⟨Nat.le_trans (cutD_length _ _ _) h.l, fun x hx => h.o x (by
  unfold DL.cutD at hx
  exact List.mem_of_mem_drop (List.mem_of_mem_take hx))⟩
theorem RowL.app {a b : Nat} {xs ys : List D} (h : RowL a xs) (h' : RowL b ys) : RowL (a + b) (xs ++ ys) := ⟨by have := h.l; have := h'.l; rw [List.length_append]; omega, fun x hx => (List.mem_append.mp hx).elim (h.o x) (h'.o x)⟩
theorem RowL.one {d : D} (h : ok1 d = true) : RowL 1 [d] := ⟨Nat.le_refl _, fun x hx => by rw [List.mem_singleton.mp hx]; exact h⟩
theorem RowL.rev {k : Nat} {xs : List D} (h : RowL k xs) : RowL k xs.reverse := ⟨by rw [List.length_reverse]; exact h.l, fun x hx => h.o x (List.mem_reverse.mp hx)⟩
theorem any_fl {xs : List D} (h : wfL 0 xs = true) : Any (.fl xs) := ⟨by show (wfL 0 xs && true) = true; rw [h]; rfl, fun ys e => by cases e⟩
theorem line_le {a b : Nat} (h : a ≤ 8000) (h' : b ≤ 8000) : a + b ≤ sizeLine := by rw [sizeLine_eq]; omega
theorem app8 {xs ys : List D} (h : xs.length ≤ 4000) (h' : ys.length ≤ 4000) : (xs ++ ys).length ≤ 8000 := by rw [List.length_append]; omega
theorem indexT_ints {row : List Int} {x : Int} {K : Nat → Prop} (h : x ∈ row) (q : ∀ j : Nat, K j) : ∃ (ns : List Int) (j : Nat), enI row = ns.map D.int ∧ ns[j]? = some x ∧ (∀ m : Nat, m < j → ns[m]? ≠ some x) ∧ K j := by
  obtain ⟨j, h1, h2⟩ := indexI h
  exact ⟨row, j, rfl, h1, h2, q j⟩
theorem all_any {a : D} {l : List D} (h : Any a) (t : ∀ d ∈ l, Any d) : ∀ d ∈ a :: l, Any d := fun d hd => (List.mem_cons.mp hd).elim (fun e => e ▸ h) (t d)
theorem any_at {L : List D} {x : D} (hx : x ∈ L) (h : L.all anyB = true) : Any x := any_of (List.all_eq_true.mp h x hx)
structure Any2 (d : D) : Prop extends Any d where
  e : ∀ xs, d = .tup xs → ∀ x ∈ xs, Any x
def any2B (d : D) : Bool := anyB d && (match d with | .tup xs => xs.all anyB | _ => true)
theorem any2_of {d : D} (h : any2B d = true) : Any2 d := by
  unfold any2B at h
  rw [Bool.and_eq_true] at h
  refine ⟨any_of h.1, fun xs e x hx => ?_⟩
  subst e
  exact any_of (List.all_eq_true.mp h.2 x hx)
theorem any2_at {L : List D} {x : D} (hx : x ∈ L) (h : L.all any2B = true) : Any2 x := any2_of (List.all_eq_true.mp h x hx)
theorem wf_any {ds : List D} (h : ∀ d ∈ ds, Any d) : wfL 0 ds = true := wfL_iff.mpr fun d hd => ok1_wf (h d hd).o
local macro_rules | `(tactic| walk_at "side") => `(tactic| first | rfl | (exact And.intro rfl (Exists.intro _ rfl)) | (exact Exists.intro _ rfl) | assumption | omega | (exact mul_r (by omega) (by omega)) | (exact mul_l (by omega) (by omega)) | (exact div_c (by omega) (by omega)) | (exact sl_le (by first | (simp; done) | (simp; omega))) | (exact ⟨by omega, by omega, by omega⟩) | (simp only [sizeLine_eq]; omega) | (simp; done) | (exact Or.inl ⟨rfl, flat_ints _⟩) | (refine line_le ?_ ?_ <;> repeat' first | (refine app8 ?_ ?_) | (exact Nat.le_trans (cutD_length _ _ _) (by rw [enI_len]; omega)) | (exact Nat.le_trans (cutD_length _ _ _) (by simp)) | (rw [enI_len]; omega) | (simp; done)))
local macro_rules | `(tactic| walk_at "go") => `(tactic| ((repeat ((conv => whnf); first | refine And.intro (by walk_at "side") ?_ | refine Or.inl (And.intro (by walk_at "side") ?_) | refine br_yes (by first | rfl | assumption) ?_ | refine br_no (by first | rfl | assumption) ?_ | refine Exists.intro _ (And.intro rfl ?_) | refine Exists.intro _ (Exists.intro _ (And.intro rfl (And.intro rfl ?_))))); (conv => whnf)))
local macro_rules | `(tactic| walk_at "each") => `(tactic| refine ix_all (by omega) (by simp; omega) ?_ <;> repeat' first | exact all_nil | refine all_cons ?_ ?_)
local macro_rules | `(tactic| walk_at "nx") => `(tactic| refine call1 rfl (enI_wf _) rfl ⟨_, rfl, (by assumption), fun n ns' hn hn' hd' => back1 rfl (enI_wf _) ?_⟩)

def sp_L_odd : DSp := fun ds G Q => match ds, G with
  | [.int n], [] => 0 ≤ n ∧ ∀ d, Any2 d → Q d []
  | _, _ => False
def N_L_odd : List Str := ["_law_number", "_law_odd_here"]
def ir_L_odd : List S :=
  [.asg (.nm 1) (.mk false (.lst [(.lit .non), (.lit (.bl true)), (.lit (.bl false)), (.lit (.int 0)), (.lit (.int 1)), (.neg (.lit (.int 1))), (.lit (.int 5)), (.lit (.str (Str.ofString ""))), (.lit (.str (Str.ofString "a"))), (.lit (.str (Str.ofString "0"))), (.tup []), (.tup [(.lit (.int 0))]), (.tup [(.lit (.int 0)), (.lit (.int 1))]), (.tup [(.tup []), (.tup [])]), (.mk false (.lst [])), (.mk false (.lst [(.lit (.int 0))])), .dct0, (.dct1 0 1)])), .asg (.nm 1) (.mk false (.op .Add (.var 1) (.mk false (.lst [(.tup [(.lit .non)]), (.tup [(.tup [])]), (.mk false (.lst [(.tup [])])), (.tup [(.lit (.bl true)), (.lit (.bl false))]), (.tup [(.tup [(.lit (.int 0)), (.lit (.int 1))]), (.tup [(.lit (.int 1)), (.lit (.int 2))])]), (.tup [(.tup [(.tup []), (.tup [])])]), (.tup [(.lit (.str (Str.ofString "a"))), (.lit (.int 1))]), (.tup [(.tup [(.lit (.int 0)), (.lit (.int 1))])]), (.op .Pow (.lit (.int 10)) (.lit (.int 30)))])))), .ret (.sub (.var 1) (.op .Mod (.var 0) (.bi .len [(.var 1)])))]
theorem ck_L_odd : defOk N_L_odd ["_law_number"] ["len"] ir_L_odd (topS 21) = true := by decide +kernel
-- slots: 0=_law_number 1=_law_odd_here | bi: len | calls:  | cons: 
theorem ks_L_odd : Keeps 1 ir_L_odd N_L_odd sp_L_odd := by
  intro ds G Q h
  unfold sp_L_odd at h
  split at h
  · obtain ⟨h0, q⟩ := h
    rename_i n
    refine ⟨rfl, ?_⟩
    walk_at "go"
    refine ix_all (Int.emod_nonneg _ (by decide)) (Int.emod_lt_of_pos _ (by decide)) fun x hx => ?_
    have hx := any2_at hx rfl
    exact fin0 rfl (ok1_wf hx.o) (q x hx)
  · exact h.elim

def sp_worth_in : DSp := fun ds G Q => match ds, G with
  | [w, .int k], [] => ∃ web t, w = Web.d web ∧ 0 ≤ k ∧ web.ts[k.toNat]? = some t ∧ Q (.int t.w) []
  | _, _ => False
def N_worth_in : List Str := ["web", "tie"]
def ir_worth_in : List S :=
  [.ret (.sub (.sub (.sub (.var 0) (.lit (.int 1))) (.var 1)) (.lit (.int 3)))]
theorem ck_worth_in : defOk N_worth_in ["web", "tie"] [] ir_worth_in (topS 5) = true := by decide +kernel
-- slots: 0=web 1=tie | bi:  | calls:  | cons: 
theorem ks_worth_in : Keeps 2 ir_worth_in N_worth_in sp_worth_in := by
  intro ds G Q h
  unfold sp_worth_in at h
  split at h
  · obtain ⟨web, t, rfl, h0, ht, q⟩ := h
    refine ⟨rfl, ?_⟩
    walk_at "go"
    refine ⟨_, enT_at h0 ht, ?_⟩
    walk_at "go"
    exact fin0 rfl rfl q
  · exact h.elim
/-- rising -/
def rises : List Int → Bool
  | a :: b :: r => decide (a < b) && rises (b :: r)
  | _ => true
def risB (n : Int) (d : D) : Bool := match rowOf n d with
  | some ns => rises ns
  | none => false
def sp_is_rising : DSp := fun ds G Q => match ds, G with
  | [d, .int n], [] => Any d ∧ Q (.bl (risB n d)) []
  | _, _ => False
theorem cut_init (ns : List Int) : DL.cutD (enI ns) none (some (-1)) = enI ns.dropLast := by
  unfold DL.cutD HT.sIx
  rw [enI_len]
  show ((enI ns).drop 0).take ((if (-1 : Int) < 0 then ((-1 : Int) + ns.length).toNat else _) - 0) = _
  rw [if_pos (by decide), List.drop_zero, Nat.sub_zero, show ((-1 : Int) + ns.length).toNat = ns.length - 1 by omega]
  unfold enI
  rw [← List.map_take, List.dropLast_eq_take]
theorem cut_tail (ns : List Int) : DL.cutD (enI ns) (some 1) none = enI (ns.drop 1) := by
  unfold DL.cutD HT.sIx
  rw [enI_len]
  show ((enI ns).drop (if (1 : Int) < 0 then _ else min (1 : Int).toNat ns.length)).take (ns.length - (if (1 : Int) < 0 then _ else min (1 : Int).toNat ns.length)) = _
  rw [if_neg (by decide)]
  have e : (enI ns).drop (min (1 : Int).toNat ns.length) = enI (ns.drop 1) := by
    unfold enI
    rw [List.map_drop]
    cases ns with
    | nil => rfl
    | cons a r => simp
  rw [e]
  refine List.take_of_length_le ?_
  rw [enI_len, List.length_drop]
  cases ns with
  | nil => simp
  | cons a r => simp
def pairsL (ns : List Int) : List (Int × Int) := List.zip ns.dropLast (ns.drop 1)
theorem pairs_en (ns : List Int) : pairsI (enI ns.dropLast) (enI (ns.drop 1)) = (pairsL ns).map fun p => D.tw [.int p.1, .int p.2] := by
  unfold pairsI enI pairsL
  rw [List.zipWith_map, List.zip, List.map_zipWith]
theorem rises_pairs : ∀ ns : List Int, (pairsL ns).all (fun p => decide (p.1 < p.2)) = rises ns
  | [] => rfl
  | [a] => rfl
  | a :: b :: r => by
    show (decide (a < b) && (pairsL (b :: r)).all _) = _
    rw [rises_pairs (b :: r)]; rfl
def N_is_rising : List Str := ["thing", "most", "one", "other"]
def ir_is_rising : List S :=
  [.iff (.or (.nt (.tru (.bi .isi [(.var 0), (.tyc .tuple)]))) (.nt (.tru (.bi .all [(.mk false (.lc [("one", 2)] (.nm 2) (.seq (.var 0)) none (.call "is_from" sp_is_from [(.var 2), (.lit (.int 0)), (.op .Sub (.var 1) (.lit (.int 1)))])))])))) [.ret (.lit (.bl false))] [], .ret (.bi .all [(.mk false (.lc [("one", 2), ("other", 3)] (.tp [(.nm 2), (.nm 3)]) (.zip (.slc (.var 0) none (some (.neg (.lit (.int 1))))) (.slc (.var 0) (some (.lit (.int 1))) none)) none (.cmp .Lt (.var 2) (.var 3))))])]
theorem ck_is_rising : defOk N_is_rising ["thing", "most"] ["isinstance", "tuple", "all", "zip"] ir_is_rising (topS 6) = true := by decide +kernel
-- slots: 0=thing 1=most 2=one 3=other | bi: isinstance tuple all zip | calls: is_from | cons: 
theorem ks_is_rising : Keeps 2 ir_is_rising N_is_rising sp_is_rising := by
  intro ds G Q h
  unfold sp_is_rising at h
  split at h
  · obtain ⟨hd, q⟩ := h
    rename_i d n
    refine ⟨rfl, ?_⟩
    cases d with
    | ty n => cases hd.o
    | tw n => cases hd.o
    | ref n => cases hd.o
    | tup xs =>
      obtain ⟨hl, hx⟩ := hd.r xs rfl
      walk_at "go"
      refine lc_all (l := xs) (enc := fun x => x) (fun x => .bl (fromB 0 (n - 1) x)) (by simp) (.inl rfl) trivial ?_ ?_
      · intro x hx1 Y hY
        walk_at "go"
        refine call0 (wfL_cons (ok1_wf (hx x hx1)) rfl) ⟨hx x hx1, back0 rfl hY⟩
      · walk_at "go"
        refine ⟨xs.map (fromB 0 (n - 1)), by rw [List.map_map]; rfl, ?_⟩
        conv => whnf
        have e : (xs.map (fromB 0 (n - 1))).all id = (fromL n xs).isSome := by rw [List.all_map]; exact fromL_all n xs
        rw [e]
        cases ef : fromL n xs with
        | none =>
          walk_at "go"
          refine fin0 rfl rfl ?_
          have e2 : risB n (.tup xs) = false := by show (match fromL n xs with | some ns => rises ns | none => false) = false; rw [ef]
          exact e2 ▸ q
        | some ns =>
          obtain ⟨rfl, hb⟩ := fromL_some ef
          rw [enI_len] at hl
          walk_at "go"
          rw [cut_init, cut_tail, pairs_en]
          refine lc_all (l := pairsL ns) (enc := fun p => D.tw [.int p.1, .int p.2]) (fun p => .bl (decide (p.1 < p.2))) rfl (.inl rfl) trivial ?_ ?_
          · intro p hp Y hY
            walk_at "go"
            exact hY
          · walk_at "go"
            refine ⟨(pairsL ns).map (fun p => decide (p.1 < p.2)), by rw [List.map_map]; rfl, ?_⟩
            conv => whnf
            refine fin0 rfl rfl ?_
            have e2 : risB n (.tup (enI ns)) = ((pairsL ns).map fun p => decide (p.1 < p.2)).all id := by
              show (match fromL n (enI ns) with | some ns => rises ns | none => false) = _
              rw [ef, List.all_map]
              exact (rises_pairs ns).symm
            exact e2 ▸ q
    | _ =>
      walk_at "go"
      exact fin0 rfl rfl q
  · exact h.elim

def endsOf (w : Web) (k : Int) : List Int := match w.ts[k.toNat]? with
  | some t => [t.a, t.b]
  | none => []
def endsL (w : Web) : List Int → List Int
  | [] => []
  | k :: r => endsOf w k ++ endsL w r
theorem endsL_app (w : Web) : ∀ l m : List Int, endsL w (l ++ m) = endsL w l ++ endsL w m
  | [], m => rfl
  | k :: l, m => by rw [List.cons_append, endsL, endsL, endsL_app w l m, List.append_assoc]
theorem endsL_len (w : Web) : ∀ l : List Int, (endsL w l).length ≤ 2 * l.length
  | [] => Nat.zero_le _
  | k :: l => by
    have := endsL_len w l
    rw [endsL, List.length_append, List.length_cons]
    unfold endsOf
    split <;> simp <;> omega
def pairOf (w : Web) (d : D) : Option (List Int) := match rowOf (w.ts.length : Int) d with
  | some ns => if rises ns && decide (endsL w ns).Nodup then some ns else none
  | none => none
def sp_is_pairing : DSp := fun ds G Q => match ds, G with
  | [w, d], [] => ∃ web, w = Web.d web ∧ web.ts.length ≤ 1000 ∧ Any d ∧ Q (.bl (pairOf web d).isSome) []
  | _, _ => False
def N_is_pairing : List Str := ["web", "thing", "taken", "tie"]
def ir_is_pairing : List S :=
  [.iff (.nt (.tru (.call "is_rising" sp_is_rising [(.var 1), (.bi .len [(.sub (.var 0) (.lit (.int 1)))])]))) [.ret (.lit (.bl false))] [], .asg (.nm 2) (.mk true (.lst [])), .forr (.nm 3) (.seq (.var 1)) [.ex (.met .extend (.var 2) [(.call "ends_of" sp_ends_of [(.var 0), (.var 3)])])], .ret (.cmp .Eq (.lenS (.var 2)) (.bi .len [(.var 2)]))]
theorem ck_is_pairing : defOk N_is_pairing ["web", "thing"] ["len", "set"] ir_is_pairing (topS 8) = true := by decide +kernel
-- slots: 0=web 1=thing 2=taken 3=tie | bi: len set | calls: is_rising ends_of | cons: 
structure WPairing (web : Web) (ns : List Int) (i : Nat) (ρ : DSt) (G : DHp) : Prop where
  h : ∃ x3, ρ = [some web.d, some (.tup (enI ns)), some (.ref 0), x3] ∧ G = [.lst (enI (endsL web (ns.take i)))]
theorem rises_len {n : Int} : ∀ {ns : List Int}, rises ns = true → (∀ i ∈ ns, 0 ≤ i ∧ i < n) → (ns.length : Int) ≤ n ∨ ns = []
  | [], _, _ => .inr rfl
  | a :: r, h, hb => .inl (by
    have key : ∀ (r : List Int) (a : Int), rises (a :: r) = true → (∀ i ∈ a :: r, i < n) → a + ((a :: r).length : Int) ≤ n := by
      intro r
      induction r with
      | nil => intro a _ hb; have := hb a List.mem_cons_self; simp; omega
      | cons b r ih =>
        intro a h hb
        have h2 : a < b ∧ rises (b :: r) = true := by simpa [rises] using h
        have := ih b h2.2 fun i hi => hb i (List.mem_cons_of_mem _ hi)
        rw [List.length_cons]
        push_cast
        omega
    have := key r a h fun i hi => (hb i hi).2
    have := (hb a List.mem_cons_self).1
    omega)
theorem ks_is_pairing : Keeps 2 ir_is_pairing N_is_pairing sp_is_pairing := by
  intro ds G Q h
  unfold sp_is_pairing at h
  split at h
  · obtain ⟨web, rfl, hl, hd, q⟩ := h
    rename_i d
    have el := enT_len web.ts
    refine ⟨rfl, ?_⟩
    walk_at "go"
    refine call0 (wfL_cons (ok1_wf hd.o) rfl) ⟨hd, back0 rfl ?_⟩
    rw [el]
    walk_at "go"
    refine br_i (fun h => ?_) fun h => ?_
    · have h : risB web.ts.length d = false := by simpa using h
      have e : (pairOf web d).isSome = false := by
        unfold pairOf
        unfold risB at h
        cases e : rowOf (web.ts.length : Int) d with
        | none => rfl
        | some ns => rw [e] at h; simp only [h, Bool.false_and]; rfl
      rw [e] at q
      walk_at "go"
      exact fin0 rfl rfl q
    · have h : risB web.ts.length d = true := by simpa using h
      obtain ⟨ns, rfl, ef, hr, hb⟩ : ∃ ns, d = .tup (enI ns) ∧ fromL (web.ts.length : Int) (enI ns) = some ns ∧ rises ns = true ∧ ∀ i ∈ ns, 0 ≤ i ∧ i < (web.ts.length : Int) := by
        unfold risB at h
        cases d with
        | tup xs =>
          have h2 : (match fromL (web.ts.length : Int) xs with | some ns => rises ns | none => false) = true := h
          clear h
          cases e : fromL (web.ts.length : Int) xs with
          | none => rw [e] at h2; cases h2
          | some ns =>
            rw [e] at h2
            obtain ⟨rfl, hb⟩ := fromL_some e
            exact ⟨ns, rfl, e, h2, hb⟩
        | _ => cases h
      have hnl : ns.length ≤ 1000 := by
        rcases rises_len hr hb with h | h
        · omega
        · rw [h]; simp
      have ep : pairOf web (.tup (enI ns)) = if decide (endsL web ns).Nodup then some ns else none := by
        show (match fromL (web.ts.length : Int) (enI ns) with | some ns => if rises ns && decide (endsL web ns).Nodup then some ns else none | none => none) = _
        rw [ef]
        show (if (rises ns && _) = true then _ else _) = _
        rw [hr, Bool.true_and]
      walk_at "go"
      refine for_i (WPairing web ns) ⟨_, rfl, rfl⟩ (fun _ _ _ _ _ => trivial) ?_ ?_
      · rintro i x _ _ hx ⟨x3, rfl, rfl⟩
        obtain ⟨k, hk, hm, rfl⟩ := map_get hx
        have hkb := hb k hm
        have ht : web.ts[k.toNat]? = some web.ts[k.toNat] := List.getElem?_eq_getElem (by omega)
        have hel := endsL_len web (ns.take i)
        have htl : (ns.take i).length ≤ ns.length := by rw [List.length_take]; omega
        have e3 := enI_len (endsL web (ns.take i))
        walk_at "go"
        refine call0 (wfL_cons (web_wf web) rfl) ⟨web, web.ts[k.toNat], rfl, hkb.1, ht, back0 rfl ?_⟩
        walk_at "go"
        refine ⟨_, rfl, ?_⟩
        rw [List.take_succ, hk, endsL_app]
        show _ = [DO.lst (enI (endsL web (ns.take i) ++ endsL web [k]))]
        unfold endsL endsOf endsL
        rw [ht]
        unfold enI
        simp
      · rintro _ _ ⟨x3, rfl, rfl⟩
        rw [enI_len, List.take_length]
        have hel := endsL_len web ns
        have e3 := enI_len (endsL web ns)
        walk_at "go"
        intro n hn
        walk_at "go"
        refine fin0 rfl rfl ?_
        have e2 : (pairOf web (.tup (enI ns))).isSome = decide ((n : Int) = ((enI (endsL web ns)).length : Int)) := by
          rw [ep, enI_len]
          by_cases h : (endsL web ns).Nodup
          · rw [if_pos (decide_eq_true h), decide_eq_true (by rw [hn.of_nodup h])]; rfl
          · rw [if_neg (by simpa using h), decide_eq_false (fun e3 => h (hn.nodup (by omega)))]; rfl
        exact e2 ▸ q
  · exact h.elim
def natI : D → Option Int
  | .int i => if 0 ≤ i then some i else none
  | _ => none
def natL : List D → Option (List Int)
  | [] => some []
  | d :: ds => match natI d, natL ds with
    | some i, some is => some (i :: is)
    | _, _ => none
theorem natL_all : ∀ ds : List D, ds.all (fun d => (natI d).isSome) = (natL ds).isSome
  | [] => rfl
  | d :: ds => by
    rw [List.all_cons, natL_all ds, natL]
    cases natI d <;> cases natL ds <;> rfl
theorem natL_some : ∀ {ds : List D} {ns : List Int}, natL ds = some ns → ds = enI ns ∧ ∀ i ∈ ns, 0 ≤ i
  | [], ns, h => by cases h; exact ⟨rfl, fun i hi => absurd hi (by simp)⟩
  | d :: ds, ns, h => by
    unfold natL at h
    cases e1 : natI d with
    | none => rw [e1] at h; cases h
    | some i =>
      cases e2 : natL ds with
      | none => rw [e1, e2] at h; cases h
      | some is =>
        rw [e1, e2] at h
        cases h
        obtain ⟨a, b⟩ := natL_some e2
        cases d <;> first
          | (exact absurd (show (none : Option Int) = some i from e1) (by simp))
          | (rename_i j
             have e1 : (if 0 ≤ j then some j else none) = some i := e1
             split at e1
             · cases e1
               refine ⟨by rw [a]; rfl, fun k hk => ?_⟩
               rcases List.mem_cons.mp hk with rfl | hk
               · assumption
               · exact b k hk
             · cases e1)
def pricesOf (n : Int) : D → Option (List Int)
  | .tup xs => if (xs.length : Int) = n then natL xs else none
  | _ => none
def sp_are_prices : DSp := fun ds G Q => match ds, G with
  | [w, d], [] => ∃ web, w = Web.d web ∧ Any d ∧ Q (.bl (pricesOf web.n d).isSome) []
  | _, _ => False
def N_are_prices : List Str := ["web", "thing", "one"]
def ir_are_prices : List S :=
  [.iff (.or (.nt (.tru (.bi .isi [(.var 1), (.tyc .tuple)]))) (.cmp .NotEq (.bi .len [(.var 1)]) (.sub (.var 0) (.lit (.int 0))))) [.ret (.lit (.bl false))] [], .ret (.bi .all [(.mk false (.lc [("one", 2)] (.nm 2) (.seq (.var 1)) none (.and (.call "is_number" sp_is_number [(.var 2)]) (.cmp .GtE (.var 2) (.lit (.int 0))))))])]
theorem ck_are_prices : defOk N_are_prices ["web", "thing"] ["isinstance", "tuple", "len", "all"] ir_are_prices (topS 10) = true := by decide +kernel
-- slots: 0=web 1=thing 2=one | bi: isinstance tuple len all | calls: is_number | cons: 
theorem ks_are_prices : Keeps 2 ir_are_prices N_are_prices sp_are_prices := by
  intro ds G Q h
  unfold sp_are_prices at h
  split at h
  · obtain ⟨web, rfl, hd, q⟩ := h
    rename_i d
    refine ⟨rfl, ?_⟩
    cases d with
    | ty n => cases hd.o
    | tw n => cases hd.o
    | ref n => cases hd.o
    | tup xs =>
      obtain ⟨hl, hx⟩ := hd.r xs rfl
      have q : Q (.bl (if (xs.length : Int) = web.n then natL xs else none).isSome) [] := q
      walk_at "go"
      refine br_i (fun h => ?_) fun h => ?_
      · have h : ¬ (xs.length : Int) = web.n := by simpa using h
        rw [if_neg h] at q
        walk_at "go"
        exact fin0 rfl rfl q
      · have h : (xs.length : Int) = web.n := by simpa using h
        rw [if_pos h] at q
        walk_at "go"
        refine lc_all (l := xs) (enc := fun x => x) (fun x => .bl (natI x).isSome) (by simp) (.inl rfl) trivial ?_ ?_
        · intro x hx1 Y hY
          have ho := hx x hx1
          walk_at "go"
          refine call0 (wfL_cons (ok1_wf ho) rfl) ⟨ho, back0 rfl ?_⟩
          cases x with
          | ty n => cases ho
          | tw n => cases ho
          | ref n => cases ho
          | int i =>
            walk_at "go"
            have e : (natI (.int i)).isSome = decide (0 ≤ i) := by
              show (if 0 ≤ i then some i else none).isSome = _
              by_cases h : 0 ≤ i
              · rw [if_pos h, decide_eq_true h]; rfl
              · rw [if_neg h, decide_eq_false h]; rfl
            rw [e] at hY
            exact hY
          | _ =>
            refine br_no rfl ?_
            exact hY
        · walk_at "go"
          refine ⟨xs.map (fun x => (natI x).isSome), by rw [List.map_map]; rfl, ?_⟩
          refine fin0 rfl rfl ?_
          rw [List.all_map]
          rw [← natL_all] at q
          exact q
    | _ =>
      walk_at "go"
      exact fin0 rfl rfl q
  · exact h.elim
def covB (w : Web) (ps : List Int) (t : Tie) : Bool := decide (t.w ≤ atR ps t.a + atR ps t.b)
def sp_are_covered : DSp := fun ds G Q => match ds, G with
  | [w, .tup us], [] => ∃ web ps, w = Web.d web ∧ us = enI ps ∧ web.ts.length ≤ 1000 ∧ (∀ t ∈ web.ts, TieOk web.n t) ∧ (ps.length : Int) = web.n ∧ Q (.bl (web.ts.all (covB web ps))) []
  | _, _ => False
def N_are_covered : List Str := ["web", "prices", "tie", "one", "other"]
def ir_are_covered : List S :=
  [.forr (.nm 2) (.rng1 (.bi .len [(.sub (.var 0) (.lit (.int 1)))])) [.asg (.tp [(.nm 3), (.nm 4)]) (.call "ends_of" sp_ends_of [(.var 0), (.var 2)]), .iff (.cmp .Lt (.op .Add (.sub (.var 1) (.var 3)) (.sub (.var 1) (.var 4))) (.call "worth_in" sp_worth_in [(.var 0), (.var 2)])) [.ret (.lit (.bl false))] []], .ret (.lit (.bl true))]
theorem ck_are_covered : defOk N_are_covered ["web", "prices"] ["range", "len"] ir_are_covered (topS 11) = true := by decide +kernel
-- slots: 0=web 1=prices 2=tie 3=one 4=other | bi: range len | calls: ends_of worth_in | cons: 
structure WCov (web : Web) (ps : List Int) (i : Nat) (ρ : DSt) (G : DHp) : Prop where
  h : ∃ x2 x3 x4, ρ = [some web.d, some (.tup (enI ps)), x2, x3, x4] ∧ G = [] ∧ (web.ts.take i).all (covB web ps) = true
theorem ks_are_covered : Keeps 2 ir_are_covered N_are_covered sp_are_covered := by
  intro ds G Q h
  unfold sp_are_covered at h
  split at h
  · obtain ⟨web, ps, rfl, rfl, hl, ht, hp, q⟩ := h
    have el := enT_len web.ts
    refine ⟨rfl, ?_⟩
    walk_at "go"
    refine for_i (WCov web ps) ⟨_, _, _, rfl, rfl, rfl⟩ (fun _ _ _ _ _ => trivial) ?_ ?_
    · rintro i x _ _ hx ⟨x2, x3, x4, rfl, rfl, ha⟩
      obtain ⟨hi, rfl⟩ := rng_get hx
      have hi : i < web.ts.length := by omega
      have hti : web.ts[i]? = some web.ts[i] := List.getElem?_eq_getElem hi
      have ok := ht web.ts[i] (List.getElem_mem hi)
      have := ok.1; have := ok.2.1; have := ok.2.2.1
      walk_at "go"
      refine call0 (wfL_cons (web_wf web) rfl) ⟨web, web.ts[i], rfl, by omega, by rw [show (0 + (i : Int)).toNat = i by omega]; exact hti, back0 rfl ?_⟩
      walk_at "go"
      refine ⟨_, atD (by omega) (by omega), ?_⟩
      walk_at "go"
      refine ⟨_, atD (by omega) (by omega), ?_⟩
      walk_at "go"
      refine call0 (wfL_cons (web_wf web) rfl) ⟨web, web.ts[i], rfl, by omega, by rw [show (0 + (i : Int)).toNat = i by omega]; exact hti, back0 rfl ?_⟩
      walk_at "go"
      refine br_i (fun h => ?_) fun h => ?_
      · have h := of_decide_eq_true h
        have e : web.ts.all (covB web ps) = false := by
          rw [Bool.eq_false_iff]
          intro e
          have := List.all_eq_true.mp e _ (List.getElem_mem hi)
          have := of_decide_eq_true this
          omega
        rw [e] at q
        walk_at "go"
        exact fin0 rfl rfl q
      · have h := of_decide_eq_false h
        walk_at "go"
        refine ⟨_, _, _, rfl, rfl, ?_⟩
        rw [List.take_succ, hti, List.all_append, ha]
        show (true && (covB web ps web.ts[i] && true)) = true
        unfold covB
        rw [decide_eq_true (by omega)]; rfl
    · rintro _ _ ⟨x2, x3, x4, rfl, rfl, ha⟩
      rw [List.length_map, List.length_range, el] at ha
      rw [show ((web.ts.length : Nat) : Int).toNat = web.ts.length by omega, List.take_length] at ha
      rw [ha] at q
      walk_at "go"
      exact fin0 rfl rfl q
  · exact h.elim

def worthAt (w : Web) (k : Int) : Int := match w.ts[k.toNat]? with
  | some t => t.w
  | none => 0
def heavL (w : Web) (ns ps : List Int) : Bool := w.ts.all (covB w ps) && decide (ps.sum = (ns.map (worthAt w)).sum)
def heavB (w : Web) (d : D) : Bool := match d with
  | .tup [p, q] => (match pairOf w p, pricesOf w.n q with
    | some ns, some ps => heavL w ns ps
    | _, _ => false)
  | _ => false
theorem pair_tup {w : Web} {d : D} {ns : List Int} (h : pairOf w d = some ns) : d = .tup (enI ns) ∧ ∀ i ∈ ns, 0 ≤ i ∧ i < (w.ts.length : Int) := by
  unfold pairOf at h
  cases d with
  | tup xs =>
    have h2 : (match fromL (w.ts.length : Int) xs with | some ns => if rises ns && decide (endsL w ns).Nodup then some ns else none | none => none) = some ns := h
    clear h
    cases e : fromL (w.ts.length : Int) xs with
    | none => rw [e] at h2; cases h2
    | some ms =>
      rw [e] at h2
      obtain ⟨rfl, hb⟩ := fromL_some e
      have h3 : (if rises ms && decide (endsL w ms).Nodup then some ms else none) = some ns := h2
      split at h3
      · cases h3; exact ⟨rfl, hb⟩
      · cases h3
  | _ => cases h
theorem prices_tup {n : Int} {d : D} {ps : List Int} (h : pricesOf n d = some ps) : d = .tup (enI ps) ∧ (ps.length : Int) = n ∧ ∀ i ∈ ps, 0 ≤ i := by
  cases d with
  | tup xs =>
    have h2 : (if (xs.length : Int) = n then natL xs else none) = some ps := h
    split at h2
    · obtain ⟨rfl, hb⟩ := natL_some h2
      rename_i hl
      rw [enI_len] at hl
      exact ⟨rfl, hl, hb⟩
    · cases h2
  | _ => cases h
def sp_heaviest_holds : DSp := fun ds G Q => match ds, G with
  | [w, d], [] => ∃ web, w = Web.d web ∧ web.ts.length ≤ 1000 ∧ (∀ t ∈ web.ts, TieOk web.n t) ∧ Any2 d ∧ Q (.bl (heavB web d)) []
  | _, _ => False
def N_heaviest_holds : List Str := ["web", "thing", "pairing", "prices", "tie"]
def ir_heaviest_holds : List S :=
  [.iff (.or (.nt (.tru (.bi .isi [(.var 1), (.tyc .tuple)]))) (.cmp .NotEq (.bi .len [(.var 1)]) (.lit (.int 2)))) [.ret (.lit (.bl false))] [], .asg (.tp [(.nm 2), (.nm 3)]) (.var 1), .iff (.or (.nt (.tru (.call "is_pairing" sp_is_pairing [(.var 0), (.var 2)]))) (.or (.nt (.tru (.call "are_prices" sp_are_prices [(.var 0), (.var 3)]))) (.nt (.tru (.call "are_covered" sp_are_covered [(.var 0), (.var 3)]))))) [.ret (.lit (.bl false))] [], .ret (.cmp .Eq (.bi .sum [(.var 3)]) (.bi .sum [(.mk false (.lc [("tie", 4)] (.nm 4) (.seq (.var 2)) none (.call "worth_in" sp_worth_in [(.var 0), (.var 4)])))]))]
theorem ck_heaviest_holds : defOk N_heaviest_holds ["web", "thing"] ["isinstance", "tuple", "len", "sum"] ir_heaviest_holds (topS 12) = true := by decide +kernel
-- slots: 0=web 1=thing 2=pairing 3=prices 4=tie | bi: isinstance tuple len sum | calls: is_pairing are_prices are_covered worth_in | cons: 
theorem ks_heaviest_holds : Keeps 2 ir_heaviest_holds N_heaviest_holds sp_heaviest_holds := by
  intro ds G Q h
  unfold sp_heaviest_holds at h
  split at h
  · obtain ⟨web, rfl, hl, ht, hd, q⟩ := h
    rename_i d
    refine ⟨rfl, ?_⟩
    cases d with
    | ty n => cases hd.o
    | tw n => cases hd.o
    | ref n => cases hd.o
    | tup xs =>
      walk_at "go"
      by_cases h2 : xs.length = 2
      · obtain ⟨p, r, rfl⟩ : ∃ p r, xs = [p, r] := by
          match xs, h2 with
          | [p, r], _ => exact ⟨p, r, rfl⟩
        have hp := hd.e _ rfl p (by simp)
        have hr := hd.e _ rfl r (by simp)
        refine br_no rfl ?_
        walk_at "go"
        refine call0 (wfL_cons (web_wf web) (wfL_cons (ok1_wf hp.o) rfl)) ⟨web, rfl, hl, hp, back0 rfl ?_⟩
        replace q : Q (.bl (match pairOf web p, pricesOf web.n r with | some ns, some ps => heavL web ns ps | _, _ => false)) [] := q
        cases ep : pairOf web p with
        | none =>
          rw [ep] at q
          walk_at "go"
          exact fin0 rfl rfl q
        | some ns =>
          rw [ep] at q
          obtain ⟨rfl, hnb⟩ := pair_tup ep
          walk_at "go"
          refine call0 (wfL_cons (web_wf web) (wfL_cons (ok1_wf hr.o) rfl)) ⟨web, rfl, hr, back0 rfl ?_⟩
          cases er : pricesOf web.n r with
          | none =>
            rw [er] at q
            walk_at "go"
            exact fin0 rfl rfl q
          | some ps =>
            rw [er] at q
            obtain ⟨rfl, hpl, hp0⟩ := prices_tup er
            replace q : Q (.bl (heavL web ns ps)) [] := q
            unfold heavL at q
            walk_at "go"
            refine call0 (wfL_cons (web_wf web) (wfL_cons (enI_wf ps) rfl)) ⟨web, ps, rfl, rfl, hl, ht, hpl, back0 rfl ?_⟩
            walk_at "go"
            refine br_i (fun h => ?_) fun h => ?_
            · have h : web.ts.all (covB web ps) = false := by simpa using h
              rw [h] at q
              walk_at "go"
              exact fin0 rfl rfl q
            · have h : web.ts.all (covB web ps) = true := by simpa using h
              rw [h, Bool.true_and] at q
              walk_at "go"
              refine lc_all (l := ns) (enc := D.int) (fun k => .int (worthAt web k)) rfl (.inl rfl) trivial ?_ ?_
              · intro k hk Y hY
                have hkb := hnb k hk
                have htk : web.ts[k.toNat]? = some web.ts[k.toNat] := List.getElem?_eq_getElem (by omega)
                walk_at "go"
                refine call0 (wfL_cons (web_wf web) rfl) ⟨web, web.ts[k.toNat], rfl, hkb.1, htk, back0 rfl ?_⟩
                have e : worthAt web k = web.ts[k.toNat].w := by unfold worthAt; rw [htk]
                rw [e] at hY
                exact hY
              · walk_at "go"
                refine ⟨ns.map (worthAt web), by rw [List.map_map]; rfl, ?_⟩
                walk_at "go"
                exact fin0 rfl rfl q
      · refine br_yes (by simpa using (by omega : ¬ (xs.length : Int) = 2)) ?_
        have e : heavB web (.tup xs) = false := by
          match xs, h2 with
          | [], _ => rfl
          | [_], _ => rfl
          | [_, _], h => exact absurd rfl h
          | _ :: _ :: _ :: _, _ => rfl
        rw [e] at q
        walk_at "go"
        exact fin0 rfl rfl q
    | _ =>
      walk_at "go"
      exact fin0 rfl rfl q
  · exact h.elim
def sp_L_whole : DSp := fun ds G Q => match ds, G with
  | [d], [] => ok1 d = true ∧ Q (.bl (isNum d)) []
  | _, _ => False
def N_L_whole : List Str := ["_law_thing"]
def ir_L_whole : List S :=
  [.ret (.and (.bi .isi [(.var 0), (.tyc .int)]) (.nt (.bi .isi [(.var 0), (.tyc .bool)])))]
theorem ck_L_whole : defOk N_L_whole ["_law_thing"] ["isinstance", "bool", "int"] ir_L_whole (topS 22) = true := by decide +kernel
-- slots: 0=_law_thing | bi: isinstance bool int | calls:  | cons: 
theorem ks_L_whole : Keeps 1 ir_L_whole N_L_whole sp_L_whole := by
  intro ds G Q h
  unfold sp_L_whole at h
  split at h
  · obtain ⟨hd, q⟩ := h
    rename_i d
    refine ⟨rfl, ?_⟩
    cases d with
    | ty n => cases hd
    | tw n => cases hd
    | ref n => cases hd
    | _ =>
      walk_at "go"
      exact fin0 rfl rfl q
  · exact h.elim

def lastOf (ms : List Int) : Int := ms.getLast?.getD (-1)
theorem rises_last : ∀ (ms : List Int) (k : Int) (r : List Int), 0 ≤ k → rises (ms ++ k :: r) = true → lastOf ms < k
  | [], k, r, h, _ => by show (-1 : Int) < k; omega
  | [a], k, r, _, h => by
    have h : (decide (a < k) && rises (k :: r)) = true := h
    rw [Bool.and_eq_true, decide_eq_true_iff] at h
    exact h.1
  | a :: b :: ms, k, r, hk, h => by
    have h : (decide (a < b) && rises ((b :: ms) ++ k :: r)) = true := h
    rw [Bool.and_eq_true] at h
    have := rises_last (b :: ms) k r hk h.2
    show ((a :: b :: ms).getLast?.getD (-1)) < k
    rw [List.getLast?_cons_cons]
    exact this
theorem rises_snoc : ∀ (ms : List Int) (k : Int), rises ms = true → lastOf ms < k → rises (ms ++ [k]) = true
  | [], k, _, _ => rfl
  | [a], k, _, h => by
    show (decide (a < k) && true) = true
    rw [decide_eq_true (show a < k from h)]; rfl
  | a :: b :: ms, k, h, hl => by
    have h : (decide (a < b) && rises (b :: ms)) = true := h
    rw [Bool.and_eq_true] at h
    show (decide (a < b) && rises ((b :: ms) ++ [k])) = true
    rw [h.1, rises_snoc (b :: ms) k h.2 (by
      have hl : (a :: b :: ms).getLast?.getD (-1) < k := hl
      rw [List.getLast?_cons_cons] at hl
      exact hl)]
    rfl
theorem lastOf_snoc (ms : List Int) (k : Int) : lastOf (ms ++ [k]) = k := by unfold lastOf; simp
theorem enI_inj : ∀ {a b : List Int}, enI a = enI b → a = b
  | [], [], _ => rfl
  | [], _ :: _, h => by cases h
  | _ :: _, [], h => by cases h
  | x :: a, y :: b, h => by
    have h : D.int x :: enI a = D.int y :: enI b := h
    injection h with h1 h2
    injection h1 with h1
    rw [h1, enI_inj h2]
/-- what stands at a place of a pairing -/
theorem pair_at {w : Web} {xs : List D} {i : Nat} {x : D} {ms : List Int} (hx : xs[i]? = some x) (hp : xs.take i = enI ms) (h : (pairOf w (.tup xs)).isSome = true) : ∃ k, x = .int k ∧ 0 ≤ k ∧ k < w.ts.length ∧ lastOf ms < k := by
  cases e : pairOf w (.tup xs) with
  | none => rw [e] at h; cases h
  | some ns =>
    obtain ⟨e1, hb⟩ := pair_tup e
    injection e1 with e1
    subst e1
    obtain ⟨k, hk, hm, rfl⟩ := map_get hx
    have hi := (List.getElem?_eq_some_iff.mp hk).1
    have em : ns.take i = ms := by
      apply enI_inj
      rw [← hp]
      unfold enI
      rw [List.map_take]
    have hr : rises ns = true := by
      have h2 : (match fromL (w.ts.length : Int) (enI ns) with | some ns => if rises ns && decide (endsL w ns).Nodup then some ns else none | none => none) = some ns := e
      cases e3 : fromL (w.ts.length : Int) (enI ns) with
      | none => rw [e3] at h2; cases h2
      | some ms2 =>
        rw [e3] at h2
        have h3 : (if rises ms2 && decide (endsL w ms2).Nodup then some ms2 else none) = some ns := h2
        split at h3
        · rename_i hc
          cases h3
          exact (Bool.and_eq_true_iff.mp hc).1
        · cases h3
    refine ⟨k, rfl, (hb k hm).1, (hb k hm).2, ?_⟩
    rw [← em]
    refine rises_last _ k (ns.drop (i + 1)) (hb k hm).1 ?_
    rw [← (List.getElem?_eq_some_iff.mp hk).2, ← List.drop_eq_getElem_cons hi, List.take_append_drop]
    exact hr
def sp_L_is_pairing : DSp := fun ds G Q => match ds, G with
  | [w, d], [] => ∃ web, w = Web.d web ∧ web.ts.length ≤ 1000 ∧ Any d ∧ Q (.bl (pairOf web d).isSome) []
  | _, _ => False
def N_L_is_pairing : List Str := ["_law_web", "_law_thing", "_law_taken", "_law_last", "_law_one"]
def ir_L_is_pairing : List S :=
  [.iff (.nt (.tru (.bi .isi [(.var 1), (.tyc .tuple)]))) [.ret (.lit (.bl false))] [], .asg (.nm 2) (.mk false (.lst [])), .asg (.nm 3) (.neg (.lit (.int 1))), .forr (.nm 4) (.seq (.var 1)) [.iff (.or (.nt (.tru (.call "_law_whole" sp_L_whole [(.var 4)]))) (.or (.cmp .LtE (.var 4) (.var 3)) (.cmp .GtE (.var 4) (.bi .len [(.sub (.var 0) (.lit (.int 1)))])))) [.ret (.lit (.bl false))] [], .asg (.nm 3) (.var 4), .asg (.nm 2) (.mk false (.op .Add (.var 2) (.mk false (.lst [(.sub (.sub (.sub (.var 0) (.lit (.int 1))) (.var 4)) (.lit (.int 0))), (.sub (.sub (.sub (.var 0) (.lit (.int 1))) (.var 4)) (.lit (.int 1)))]))))], .ret (.cmp .Eq (.mk false (.lc [("_law_one", 4)] (.nm 4) (.seq (.var 2)) (some (.cmp .Gt (.met .count (.var 2) [(.var 4)]) (.lit (.int 1)))) (.var 4))) (.mk false (.lst [])))]
theorem ck_L_is_pairing : defOk N_L_is_pairing ["_law_web", "_law_thing"] ["isinstance", "tuple", "len"] ir_L_is_pairing (topS 23) = true := by decide +kernel
-- slots: 0=_law_web 1=_law_thing 2=_law_taken 3=_law_last 4=_law_one | bi: isinstance tuple len | calls: _law_whole | cons: 
structure WIsP (web : Web) (xs : List D) (i : Nat) (ρ : DSt) (G : DHp) : Prop where
  h : ∃ x4 ms, ρ = [some web.d, some (.tup xs), some (.fl (enI (endsL web ms))), some (.int (lastOf ms)), x4] ∧ G = [] ∧ xs.take i = enI ms ∧ rises ms = true ∧ ∀ k ∈ ms, 0 ≤ k ∧ k < (web.ts.length : Int)
theorem fromL_in {n : Int} : ∀ {ns : List Int}, (∀ k ∈ ns, 0 ≤ k ∧ k < n) → fromL n (enI ns) = some ns
  | [], _ => rfl
  | k :: r, h => by
    show (match fromI n (.int k), fromL n (enI r) with | some i, some is => some (i :: is) | _, _ => none) = _
    rw [fromL_in fun j hj => h j (List.mem_cons_of_mem _ hj)]
    show (match (if 0 ≤ k ∧ k < n then some k else none), some r with | some i, some is => some (i :: is) | _, _ => none) = _
    rw [if_pos (h k List.mem_cons_self)]
theorem ks_L_is_pairing : Keeps 2 ir_L_is_pairing N_L_is_pairing sp_L_is_pairing := by
  intro ds G Q h
  unfold sp_L_is_pairing at h
  split at h
  · obtain ⟨web, rfl, hl, hd, q⟩ := h
    rename_i d
    have el := enT_len web.ts
    refine ⟨rfl, ?_⟩
    cases d with
    | ty n => cases hd.o
    | tw n => cases hd.o
    | ref n => cases hd.o
    | tup xs =>
      obtain ⟨hxl, hx1⟩ := hd.r xs rfl
      walk_at "go"
      refine for_i (WIsP web xs) ⟨_, [], rfl, rfl, rfl, rfl, fun k h => absurd h (by simp)⟩ (fun _ _ _ _ _ => trivial) ?_ ?_
      · rintro i x _ _ hx ⟨x4, ms, rfl, rfl, hp, hr, hb⟩
        have ho := hx1 x (List.mem_of_getElem? hx)
        have no : ¬ (∃ k, x = .int k ∧ 0 ≤ k ∧ k < web.ts.length ∧ lastOf ms < k) → (pairOf web (.tup xs)).isSome = false := fun h => by
          rw [Bool.eq_false_iff]
          exact fun e => h (pair_at hx hp e)
        have hel := endsL_len web ms
        have e3 := enI_len (endsL web ms)
        have hml : ms.length ≤ 1000 := by
          have e := congrArg List.length hp
          rw [enI_len, List.length_take] at e
          rcases rises_len hr hb with h | h
          · omega
          · rw [h]; simp
        walk_at "go"
        refine call0 (wfL_cons (ok1_wf ho) rfl) ⟨ho, back0 rfl ?_⟩
        cases x with
        | int k =>
          walk_at "go"
          refine br_i (fun h => ?_) fun h => ?_
          · have h := of_decide_eq_true h
            rw [no (by rintro ⟨k2, e, _, _, h3⟩; cases e; omega)] at q
            refine br_yes rfl ?_
            walk_at "go"
            exact fin0 rfl rfl q
          · have h := of_decide_eq_false h
            walk_at "go"
            refine br_i (fun h2 => ?_) fun h2 => ?_
            · have h2 := of_decide_eq_true h2
              rw [no (by rintro ⟨k2, e, _, _, h3⟩; cases e; omega)] at q
              walk_at "go"
              exact fin0 rfl rfl q
            · have h2 := of_decide_eq_false h2
              have h0 : 0 ≤ k := by
                have : -1 ≤ lastOf ms := by
                  unfold lastOf
                  cases e : ms.getLast? with
                  | none => exact Int.le_refl _
                  | some a => have := (hb a (List.mem_of_getLast? e)).1; show -1 ≤ a; omega
                omega
              have hk : web.ts[k.toNat]? = some web.ts[k.toNat] := List.getElem?_eq_getElem (by omega)
              walk_at "go"
              refine ⟨_, enT_at h0 hk, ?_⟩
              walk_at "go"
              refine ⟨_, enT_at h0 hk, ?_⟩
              walk_at "go"
              refine ⟨some (.int k), ms ++ [k], ?_, rfl, ?_, rises_snoc ms k hr (by omega), fun j hj => (List.mem_append.mp hj).elim (hb j) fun h => by rw [List.mem_singleton.mp h]; omega⟩
              · rw [lastOf_snoc, endsL_app]
                have e : enI (endsL web ms ++ endsL web [k]) = enI (endsL web ms) ++ [.int web.ts[k.toNat].a, .int web.ts[k.toNat].b] := by
                  unfold endsL endsOf endsL
                  rw [hk]
                  unfold enI
                  simp
                rw [e]; rfl
              · rw [List.take_succ, hx, hp, enI_snoc]; rfl
        | _ =>
          rw [no (by rintro ⟨k2, e, _⟩; cases e)] at q
          refine br_yes rfl ?_
          walk_at "go"
          exact fin0 rfl rfl q
      · rintro _ _ ⟨x4, ms, rfl, rfl, hp, hr, hb⟩
        rw [List.take_length] at hp
        subst hp
        have e : (pairOf web (.tup (enI ms))).isSome = decide (endsL web ms).Nodup := by
          show (match fromL (web.ts.length : Int) (enI ms) with | some ns => if rises ns && decide (endsL web ns).Nodup then some ns else none | none => none).isSome = _
          rw [fromL_in hb]
          show Option.isSome (if (rises ms && decide (endsL web ms).Nodup) = true then some ms else none) = _
          rw [hr, Bool.true_and]
          by_cases h : (endsL web ms).Nodup
          · rw [if_pos (decide_eq_true h), decide_eq_true h]; rfl
          · rw [if_neg (by simpa using h), decide_eq_false h]; rfl
        rw [e, ← filter_twice] at q
        walk_at "go"
        refine lc_map (l := endsL web ms) (enc := D.int) (fun a => decide (((endsL web ms).count a : Int) > 1)) D.int rfl (.inl rfl) trivial ?_ ?_
        · intro a ha Y N hY hN
          walk_at "go"
          exact br_i hY hN
        · walk_at "go"
          rw [List.isEmpty_map]
          exact fin0 rfl rfl q
    | _ =>
      walk_at "go"
      exact fin0 rfl rfl q
  · exact h.elim

theorem filter_nat : ∀ ds : List D, (ds.filter fun x => (natI x).isNone).isEmpty = (natL ds).isSome
  | [] => rfl
  | d :: ds => by
    have ih := filter_nat ds
    rw [natL, List.filter_cons]
    cases h : natI d with
    | none => rfl
    | some i =>
      show (ds.filter _).isEmpty = _
      rw [ih]
      cases natL ds <;> rfl
def sp_L_is_heaviest : DSp := fun ds G Q => match ds, G with
  | [w, d], [] => ∃ web, w = Web.d web ∧ web.ts.length ≤ 1000 ∧ (∀ t ∈ web.ts, TieOk web.n t) ∧ Any2 d ∧ Q (.bl (heavB web d)) []
  | _, _ => False
def N_L_is_heaviest : List Str := ["_law_web", "_law_thing", "_law_prices", "_law_one", "_law_tie"]
def ir_L_is_heaviest : List S :=
  [.iff (.or (.nt (.tru (.bi .isi [(.var 1), (.tyc .tuple)]))) (.or (.cmp .NotEq (.bi .len [(.var 1)]) (.lit (.int 2))) (.nt (.tru (.call "_law_is_pairing" sp_L_is_pairing [(.var 0), (.sub (.var 1) (.lit (.int 0)))]))))) [.ret (.lit (.bl false))] [], .asg (.nm 2) (.sub (.var 1) (.lit (.int 1))), .iff (.or (.nt (.tru (.bi .isi [(.var 2), (.tyc .tuple)]))) (.cmp .NotEq (.bi .len [(.var 2)]) (.sub (.var 0) (.lit (.int 0))))) [.ret (.lit (.bl false))] [], .iff (.cmp .NotEq (.mk false (.lc [("_law_one", 3)] (.nm 3) (.seq (.var 2)) (some (.or (.nt (.tru (.call "_law_whole" sp_L_whole [(.var 3)]))) (.cmp .Lt (.var 3) (.lit (.int 0))))) (.var 3))) (.mk false (.lst []))) [.ret (.lit (.bl false))] [], .iff (.cmp .NotEq (.mk false (.lc [("_law_tie", 4)] (.nm 4) (.seq (.sub (.var 0) (.lit (.int 1)))) (some (.cmp .Lt (.op .Add (.sub (.var 2) (.sub (.var 4) (.lit (.int 0)))) (.sub (.var 2) (.sub (.var 4) (.lit (.int 1))))) (.sub (.var 4) (.lit (.int 3))))) (.var 4))) (.mk false (.lst []))) [.ret (.lit (.bl false))] [], .ret (.cmp .Eq (.bi .sum [(.var 2)]) (.bi .sum [(.mk false (.lc [("_law_one", 3)] (.nm 3) (.seq (.sub (.var 1) (.lit (.int 0)))) none (.sub (.sub (.sub (.var 0) (.lit (.int 1))) (.var 3)) (.lit (.int 3)))))]))]
theorem ck_L_is_heaviest : defOk N_L_is_heaviest ["_law_web", "_law_thing"] ["isinstance", "tuple", "len", "sum"] ir_L_is_heaviest (topS 24) = true := by decide +kernel
-- slots: 0=_law_web 1=_law_thing 2=_law_prices 3=_law_one 4=_law_tie | bi: isinstance tuple len sum | calls: _law_is_pairing _law_whole | cons: 
theorem ks_L_is_heaviest : Keeps 2 ir_L_is_heaviest N_L_is_heaviest sp_L_is_heaviest := by
  intro ds G Q h
  unfold sp_L_is_heaviest at h
  split at h
  · obtain ⟨web, rfl, hl, ht, hd, q⟩ := h
    rename_i d
    refine ⟨rfl, ?_⟩
    cases d with
    | ty n => cases hd.o
    | tw n => cases hd.o
    | ref n => cases hd.o
    | tup xs =>
      walk_at "go"
      by_cases h2 : xs.length = 2
      · obtain ⟨p, r, rfl⟩ : ∃ p r, xs = [p, r] := by
          match xs, h2 with
          | [p, r], _ => exact ⟨p, r, rfl⟩
        have hp := hd.e _ rfl p (by simp)
        have hr := hd.e _ rfl r (by simp)
        refine br_no rfl ?_
        walk_at "go"
        refine call0 (wfL_cons (web_wf web) (wfL_cons (ok1_wf hp.o) rfl)) ⟨web, rfl, hl, hp, back0 rfl ?_⟩
        replace q : Q (.bl (match pairOf web p, pricesOf web.n r with | some ns, some ps => heavL web ns ps | _, _ => false)) [] := q
        cases ep : pairOf web p with
        | none =>
          rw [ep] at q
          walk_at "go"
          exact fin0 rfl rfl q
        | some ns =>
          rw [ep] at q
          obtain ⟨rfl, hnb⟩ := pair_tup ep
          walk_at "go"
          cases r with
          | ty n => cases hr.o
          | tw n => cases hr.o
          | ref n => cases hr.o
          | tup ys =>
            obtain ⟨hyl, hy1⟩ := hr.r ys rfl
            walk_at "go"
            refine br_i (fun h => ?_) fun h => ?_
            · have h : ¬ (ys.length : Int) = web.n := by simpa using h
              have e : pricesOf web.n (.tup ys) = none := by show (if (ys.length : Int) = web.n then natL ys else none) = none; rw [if_neg h]
              rw [e] at q
              walk_at "go"
              exact fin0 rfl rfl q
            · have h : (ys.length : Int) = web.n := by simpa using h
              have e : pricesOf web.n (.tup ys) = natL ys := by show (if (ys.length : Int) = web.n then natL ys else none) = _; rw [if_pos h]
              rw [e] at q
              walk_at "go"
              refine lc_map (l := ys) (enc := fun x => x) (fun x => (natI x).isNone) (fun x => x) (by simp) (.inl rfl) trivial ?_ ?_
              · intro x hx1 Y N hY hN
                have ho := hy1 x hx1
                walk_at "go"
                refine call0 (wfL_cons (ok1_wf ho) rfl) ⟨ho, back0 rfl ?_⟩
                cases x with
                | ty n => cases ho
                | tw n => cases ho
                | ref n => cases ho
                | int i =>
                  walk_at "go"
                  have e : (natI (.int i)).isNone = decide (i < 0) := by
                    show (if 0 ≤ i then some i else none).isNone = _
                    by_cases h : 0 ≤ i
                    · rw [if_pos h, decide_eq_false (by omega)]; rfl
                    · rw [if_neg h, decide_eq_true (by omega)]; rfl
                  rw [e] at hY hN
                  exact br_i hY hN
                | _ =>
                  walk_at "go"
                  exact hY rfl
              walk_at "go"
              rw [List.map_id'' (fun _ => rfl), filter_nat]
              cases er : natL ys with
              | none =>
                rw [er] at q
                refine br_yes rfl ?_
                walk_at "go"
                exact fin0 rfl rfl q
              | some ps =>
                rw [er] at q
                obtain ⟨rfl, hp0⟩ := natL_some er
                rw [enI_len] at h
                replace q : Q (.bl (heavL web ns ps)) [] := q
                unfold heavL at q
                walk_at "go"
                refine lc_map (l := web.ts) (enc := Tie.d) (fun t => !covB web ps t) Tie.d rfl (.inl rfl) trivial ?_ ?_
                · intro t htm Y N hY hN
                  have ok := ht t htm
                  have := ok.1; have := ok.2.1; have := ok.2.2.1
                  walk_at "go"
                  refine ⟨_, atD (by omega) (by omega), ?_⟩
                  walk_at "go"
                  refine ⟨_, atD (by omega) (by omega), ?_⟩
                  walk_at "go"
                  have e : (!covB web ps t) = decide (atR ps t.a + atR ps t.b < t.w) := by
                    unfold covB
                    by_cases h : t.w ≤ atR ps t.a + atR ps t.b
                    · rw [decide_eq_true h, decide_eq_false (by omega)]; rfl
                    · rw [decide_eq_false h, decide_eq_true (by omega)]; rfl
                  rw [e] at hY hN
                  exact br_i hY hN
                walk_at "go"
                rw [List.isEmpty_map, filter_empty]
                have e4 : (web.ts.all fun a => !!covB web ps a) = web.ts.all (covB web ps) := by simp
                rw [e4]
                refine br_i (fun h => ?_) fun h => ?_
                · have h : web.ts.all (covB web ps) = false := by simpa using h
                  rw [h] at q
                  walk_at "go"
                  exact fin0 rfl rfl q
                · have h : web.ts.all (covB web ps) = true := by simpa using h
                  rw [h, Bool.true_and] at q
                  walk_at "go"
                  refine lc_all (l := ns) (enc := D.int) (fun k => .int (worthAt web k)) rfl (.inl rfl) trivial ?_ ?_
                  · intro k hk Y hY
                    have hkb := hnb k hk
                    have htk : web.ts[k.toNat]? = some web.ts[k.toNat] := List.getElem?_eq_getElem (by omega)
                    walk_at "go"
                    refine ⟨_, enT_at hkb.1 htk, ?_⟩
                    walk_at "go"
                    have e : worthAt web k = web.ts[k.toNat].w := by unfold worthAt; rw [htk]
                    rw [e] at hY
                    exact hY
                  · walk_at "go"
                    refine ⟨ns.map (worthAt web), by rw [List.map_map]; rfl, ?_⟩
                    walk_at "go"
                    exact fin0 rfl rfl q
          | _ =>
            walk_at "go"
            exact fin0 rfl rfl q
      · refine br_yes (by simpa using (by omega : ¬ (xs.length : Int) = 2)) ?_
        have e : heavB web (.tup xs) = false := by
          match xs, h2 with
          | [], _ => rfl
          | [_], _ => rfl
          | [_, _], h => exact absurd rfl h
          | _ :: _ :: _ :: _, _ => rfl
        rw [e] at q
        walk_at "go"
        exact fin0 rfl rfl q
    | _ =>
      walk_at "go"
      exact fin0 rfl rfl q
  · exact h.elim

def sp_L_made : DSp := fun ds G Q => match ds, G with
  | [.ref 0], [.lst xs] => (∃ ns, xs = enI ns ∧ Dr ns) ∧ ∀ web pr ps ns', WebOk 9 10 web → pr.length ≤ 10 → 2 ≤ ps.length → ps.length ≤ 9 → (∀ p ∈ ps, 0 ≤ p ∧ p ≤ 500) → Dr ns' → Q (.tup [web.d, .tup [.tup (enI pr), .tup (enI ps)]]) [.lst (enI ns')]
  | _, _ => False
def N_L_made : List Str := ["_law_numbers", "_law_things", "_law_top", "_law_prices", "_law_k", "_law_left", "_law_ties", "_law_one", "_law_other", "_law_ends", "_law_pairing", "_law_both", "_law_worth", "_law_web"]
def ir_L_made : List S :=
  [.asg (.nm 1) (.op .Add (.lit (.int 2)) (.op .Mod (.call "_law_next" sp_L_next [(.var 0)]) (.lit (.int 8)))), .asg (.nm 2) (.sub (.mk false (.lst [(.lit (.int 3)), (.lit (.int 20)), (.lit (.int 500))])) (.op .Mod (.call "_law_next" sp_L_next [(.var 0)]) (.lit (.int 3)))), .lcs 3 true (.lc [("_law_k", 4)] (.nm 4) (.rng1 (.var 1)) none (.op .Mod (.call "_law_next" sp_L_next [(.var 0)]) (.op .Add (.var 2) (.lit (.int 1))))), .asg (.nm 5) (.mk true (.lr1 (.var 1))), .asg (.nm 6) (.mk true (.lst [])), .forr (.nm 4) (.rng1 (.op .Mod (.call "_law_next" sp_L_next [(.var 0)]) (.op .Add (.op .FloorDiv (.var 1) (.lit (.int 2))) (.lit (.int 1))))) [.asg (.nm 7) (.met .popAt (.var 5) [(.op .Mod (.call "_law_next" sp_L_next [(.var 0)]) (.bi .len [(.var 5)]))]), .asg (.nm 8) (.met .popAt (.var 5) [(.op .Mod (.call "_law_next" sp_L_next [(.var 0)]) (.bi .len [(.var 5)]))]), .asg (.nm 9) (.tup [(.bi .min [(.var 7), (.var 8)]), (.bi .max [(.var 7), (.var 8)])]), .ex (.met .append (.var 6) [(.op .Add (.var 9) (.tup [(.call "_law_chance" sp_L_chance [(.call "_law_next" sp_L_next [(.var 0)]), (.lit (.int 1))]), (.op .Add (.sub (.var 3) (.var 7)) (.sub (.var 3) (.var 8)))]))])], .asg (.nm 10) (.mk false (.lr1 (.bi .len [(.var 6)]))), .forr (.nm 7) (.seq (.var 5)) [.setIx (.lit (.int 0)) (.var 3) (.var 7)], .forr (.nm 4) (.rng1 (.op .Mod (.call "_law_next" sp_L_next [(.var 0)]) (.lit (.int 7)))) [.asg (.nm 7) (.op .Mod (.call "_law_next" sp_L_next [(.var 0)]) (.var 1)), .asg (.nm 8) (.op .Mod (.op .Add (.op .Add (.var 7) (.lit (.int 1))) (.op .Mod (.call "_law_next" sp_L_next [(.var 0)]) (.op .Sub (.var 1) (.lit (.int 1))))) (.var 1)), .asg (.nm 11) (.op .Add (.sub (.var 3) (.var 7)) (.sub (.var 3) (.var 8))), .asg (.nm 12) (.bi .max [(.lit (.int 0)), (.op .Sub (.var 11) (.sub (.mk false (.lst [(.lit (.int 0)), (.lit (.int 0)), (.lit (.int 1)), (.op .Mod (.call "_law_next" sp_L_next [(.var 0)]) (.op .Add (.var 11) (.lit (.int 1))))])) (.op .Mod (.call "_law_next" sp_L_next [(.var 0)]) (.lit (.int 4)))))]), .ex (.met .append (.var 6) [(.tup [(.bi .min [(.var 7), (.var 8)]), (.bi .max [(.var 7), (.var 8)]), (.call "_law_chance" sp_L_chance [(.call "_law_next" sp_L_next [(.var 0)]), (.lit (.int 2))]), (.var 12)])])], .iff (.and (.cmp .NotEq (.var 6) (.mk false (.lst []))) (.cmp .Eq (.op .Mod (.call "_law_next" sp_L_next [(.var 0)]) (.lit (.int 6))) (.lit (.int 0)))) [.setIx (.op .Add (.slc (.sub (.var 6) (.neg (.lit (.int 1)))) none (some (.lit (.int 3)))) (.tup [(.bi .min [(.lit (.int 1000)), (.op .Add (.sub (.sub (.var 6) (.neg (.lit (.int 1)))) (.lit (.int 3))) (.lit (.int 1)))])])) (.var 6) (.neg (.lit (.int 1)))] [], .asg (.nm 13) (.tup [(.var 1), (.bi .tuple [(.var 6)]), (.op .Mult (.tup [(.lit (.int 1))]) (.var 1)), (.op .Mod (.call "_law_next" sp_L_next [(.var 0)]) (.lit (.int 41)))]), .ret (.tup [(.var 13), (.tup [(.bi .tuple [(.var 10)]), (.bi .tuple [(.var 3)])])])]
theorem ck_L_made : defOk N_L_made ["_law_numbers"] ["range", "list", "len", "min", "max", "tuple"] ir_L_made (topS 25) = true := by decide +kernel
-- slots: 0=_law_numbers 1=_law_things 2=_law_top 3=_law_prices 4=_law_k 5=_law_left 6=_law_ties 7=_law_one 8=_law_other 9=_law_ends 10=_law_pairing 11=_law_both 12=_law_worth 13=_law_web | bi: range list len min max tuple | calls: _law_next _law_chance | cons: 
def PsOk (n : Int) (ps : List Int) : Prop := (ps.length : Int) = n ∧ ∀ p ∈ ps, 0 ≤ p ∧ p ≤ 500
theorem PsOk.at {n : Int} {ps : List Int} (h : PsOk n ps) {k : Int} (h0 : 0 ≤ k) (h1 : k < n) : 0 ≤ atR ps k ∧ atR ps k ≤ 500 := h.2 _ (atR_mem (by have := h.1; omega) (by have := h.1; omega))
structure WMade0 (i : Nat) (acc : List D) (G : DHp) : Prop where
  h : ∃ ns ps, G = [.lst (enI ns)] ∧ Dr ns ∧ acc = enI ps ∧ ps.length = i ∧ ∀ p ∈ ps, 0 ≤ p ∧ p ≤ 500
structure WMade1 (N top : Int) (i : Nat) (ρ : DSt) (G : DHp) : Prop where
  h : ∃ x4 x7 x8 x9 x10 x11 x12 x13 ns ps left ts, ρ = [some (.ref 0), some (.int N), some (.int top), some (.ref 1), x4, some (.ref 2), some (.ref 3), x7, x8, x9, x10, x11, x12, x13] ∧ G = [.lst (enI ns), .lst (enI ps), .lst (enI left), .lst (enT ts)] ∧
    Dr ns ∧ PsOk N ps ∧ (left.length : Int) + 2 * i = N ∧ left.Nodup ∧ (∀ k ∈ left, 0 ≤ k ∧ k < N) ∧ ts.length = i ∧ ∀ t ∈ ts, TieOk N t
structure WMade2 (N top : Int) (pr : D) (ns left : List Int) (ts : List Tie) (i : Nat) (ρ : DSt) (G : DHp) : Prop where
  h : ∃ x4 x7 x8 x9 x11 x12 x13 ps, ρ = [some (.ref 0), some (.int N), some (.int top), some (.ref 1), x4, some (.ref 2), some (.ref 3), x7, x8, x9, some pr, x11, x12, x13] ∧ G = [.lst (enI ns), .lst (enI ps), .lst (enI left), .lst (enT ts)] ∧ PsOk N ps
structure WMade3 (N top : Int) (pr : D) (ps left : List Int) (c : Nat) (i : Nat) (ρ : DSt) (G : DHp) : Prop where
  h : ∃ x4 x7 x8 x9 x11 x12 x13 ns ts, ρ = [some (.ref 0), some (.int N), some (.int top), some (.ref 1), x4, some (.ref 2), some (.ref 3), x7, x8, x9, some pr, x11, x12, x13] ∧ G = [.lst (enI ns), .lst (enI ps), .lst (enI left), .lst (enT ts)] ∧ Dr ns ∧ ts.length = c + i ∧ ∀ t ∈ ts, TieOk N t
theorem enI_set (l : List Int) (j : Nat) (v : Int) : (enI l).set j (.int v) = enI (l.set j v) := by unfold enI; rw [List.map_set]
theorem PsOk.set {n : Int} {ps : List Int} (h : PsOk n ps) (j : Nat) {v : Int} (h0 : 0 ≤ v) (h1 : v ≤ 500) : PsOk n (ps.set j v) := ⟨by rw [List.length_set]; exact h.1, fun p hp => (List.mem_or_eq_of_mem_set hp).elim (h.2 p) fun e => by rw [e]; exact ⟨h0, h1⟩⟩
theorem ixN_nat {n : Nat} {k : Int} (h0 : 0 ≤ k) (h1 : k < n) : ixN n k = some k.toNat := by unfold ixN; rw [if_pos h0, if_pos h1]
theorem last_atT (a : List Tie) (t : Tie) : atI (enT (a ++ [t])) (-1) = some t.d := by
  unfold atI ixN
  rw [enT_len, if_neg (by decide), List.length_append, List.length_singleton, if_pos (by omega)]
  show (enT (a ++ [t]))[((-1 : Int) + ((a.length + 1 : Nat) : Int)).toNat]? = _
  rw [show ((-1 : Int) + ((a.length + 1 : Nat) : Int)).toNat = a.length by omega, enT, List.getElem?_map, List.getElem?_append_right (Nat.le_refl _), Nat.sub_self]
  rfl
theorem last_ixT (a : List Tie) (t : Tie) : ixN (enT (a ++ [t])).length (-1) = some a.length := by
  unfold ixN
  rw [enT_len, if_neg (by decide), List.length_append, List.length_singleton, if_pos (by omega)]
  congr 1
  omega
theorem last_setT (a : List Tie) (t u : Tie) : (enT (a ++ [t])).set a.length u.d = enT (a ++ [u]) := by
  unfold enT
  rw [← List.map_set, List.set_append_right _ _ (Nat.le_refl _), Nat.sub_self]
  rfl
theorem ks_L_made : Keeps 1 ir_L_made N_L_made sp_L_made := by
  intro ds G Q h
  unfold sp_L_made at h
  split at h
  · obtain ⟨⟨ns, rfl, hd⟩, q⟩ := h
    refine ⟨rfl, ?_⟩
    walk_at "go"
    walk_at "nx"
    rename_i n0 _ _ _ _
    walk_at "go"
    walk_at "nx"
    rename_i t0 ns2 _ _ hd2
    have hn : 0 ≤ n0 % 8 ∧ n0 % 8 < 8 := by omega
    walk_at "go"
    generalize n0 % 8 = nn at *
    refine ix_ints (P := fun j => 3 ≤ j ∧ j ≤ 500) (by omega) (by simp; omega) ?_ fun top htop => ?_
    · intro x hx
      simp only [List.mem_cons, List.not_mem_nil, or_false] at hx
      rcases hx with rfl | rfl | rfl
      all_goals exact ⟨_, rfl, by omega⟩
    walk_at "go"
    refine lc_i (.inr (sl_le (by simp; omega))) WMade0 ⟨ns2, [], rfl, hd2, rfl, rfl, fun p h => absurd h (by simp)⟩ (fun _ _ _ _ _ => trivial) ?_ ?_
    · rintro j x acc _ hx ⟨ns, ps, rfl, hd, rfl, hl, hb⟩
      obtain ⟨_, rfl⟩ := rng_get hx
      walk_at "go"
      walk_at "nx"
      rename_i v0 _ _ _ _
      have hv := em2 (x := v0) (n := top + 1) (by omega)
      walk_at "go"
      exact ⟨_, ps ++ [_], rfl, by assumption, (enI_snoc _ _).symm, by rw [List.length_append, hl]; rfl, fun p hp => (List.mem_append.mp hp).elim (hb p) fun h => by rw [List.mem_singleton.mp h]; omega⟩
    rintro acc _ ⟨ns3, ps, rfl, hd3, rfl, hpl, hpb⟩
    have hps : PsOk (2 + nn) ps := ⟨by rw [hpl, List.length_map, List.length_range]; omega, hpb⟩
    walk_at "go"
    walk_at "nx"
    rename_i m0 _ _ _ _
    have hm := em2 (x := m0) (n := (2 + nn) / 2 + 1) (by omega)
    walk_at "go"
    have fin : ∀ x4 x7 x8 x9 x11 x12 x13 ns ps left ts pr, Dr ns → PsOk (2 + nn) ps → ts.length ≤ 10 → pr.length ≤ 10 → (∀ t ∈ ts, TieOk (2 + nn) t) → ∀ nx bk ct, semB (ir_L_made.drop 10) ⟨nx, dForget 1 Q, bk, ct⟩
        [some (.ref 0), some (.int (2 + nn)), some (.int top), some (.ref 1), x4, some (.ref 2), some (.ref 3), x7, x8, x9, some (.fl (enI pr)), x11, x12, x13] [.lst (enI ns), .lst (enI ps), .lst (enI left), .lst (enT ts)] := by
      intro x4 x7 x8 x9 x11 x12 x13 ns ps left ts pr hd hps htl hpr ht nx bk ct
      walk_at "go"
      walk_at "nx"
      rename_i k0 _ _ _ _
      walk_at "go"
      have e : (List.replicate (2 + nn).toNat [D.int 1]).flatten = enI (List.replicate (2 + nn).toNat 1) := by
        unfold enI
        rw [List.map_replicate]
        induction (2 + nn).toNat with
        | zero => rfl
        | succ k ih => rw [List.replicate_succ, List.replicate_succ, List.flatten_cons, ih]; rfl
      rw [e]
      have wok : WebOk 9 10 ⟨2 + nn, ts, List.replicate (2 + nn).toNat 1, k0 % 41⟩ := ⟨by show 0 ≤ 2 + nn; omega, by show 2 + nn ≤ 9; omega, by show (ts.length : Int) ≤ 10; omega, ht, by show ((List.replicate (2 + nn).toNat (1 : Int)).length : Int) = 2 + nn; rw [List.length_replicate]; omega,
        fun p hp => by have := List.eq_of_mem_replicate hp; omega, by show 0 ≤ k0 % 41; omega, by show k0 % 41 ≤ 40; omega⟩
      have hl := hps.1
      refine fin1 rfl ?_ (enI_wf _) (q _ pr ps _ wok hpr (by omega) (by omega) hps.2 (by assumption))
      show (wfD 0 (Web.d ⟨2 + nn, ts, List.replicate (2 + nn).toNat 1, k0 % 41⟩) && ((wfL 0 (enI pr) && (wfL 0 (enI ps) && true)) && true)) = true
      rw [web_wf, enI_wf, enI_wf]; rfl
    refine for_i (WMade1 (2 + nn) top) ⟨_, _, _, _, _, _, _, _, _, ps, rangeI 0 (2 + nn), [], rfl, rfl, by assumption, hps, by rw [rangeI_len]; omega, rangeI_nodup _, fun k hk => rangeI_mem hk, rfl, fun t ht => absurd ht (by simp)⟩ (fun _ _ _ _ _ => trivial) ?_ ?_
    · rintro i x _ _ hx ⟨x4, x7, x8, x9, x10, x11, x12, x13, ns, ps, left, ts, rfl, rfl, hd, hps, hll, hnd, hlb, htl, ht⟩
      obtain ⟨hi, rfl⟩ := rng_get hx
      have e1 := enI_len left
      walk_at "go"
      walk_at "nx"
      rename_i j0 _ _ _ _
      have hj := em2 (x := j0) (n := ((enI left).length : Int)) (by omega)
      walk_at "go"
      refine popI hj.1 (by omega) fun k y hy => ?_
      have hk := (List.getElem?_eq_some_iff.mp hy).1
      have pm := erase_perm left k hk
      rw [(List.getElem?_eq_some_iff.mp hy).2] at pm
      have nd1 := List.nodup_cons.mp (pm.nodup_iff.mpr hnd)
      have hb1 : ∀ z ∈ y :: left.eraseIdx k, 0 ≤ z ∧ z < 2 + nn := fun z hz => hlb z (pm.mem_iff.mp hz)
      have hyb := hb1 y List.mem_cons_self
      have el1 := List.length_eraseIdx_of_lt hk
      rw [enI_erase]
      have e2 := enI_len (left.eraseIdx k)
      walk_at "go"
      walk_at "nx"
      rename_i j1 _ _ _ _
      have hj1 := em2 (x := j1) (n := ((enI (left.eraseIdx k)).length : Int)) (by omega)
      walk_at "go"
      refine popI hj1.1 (by omega) fun k2 y2 hy2 => ?_
      have hk2 := (List.getElem?_eq_some_iff.mp hy2).1
      have pm2 := erase_perm (left.eraseIdx k) k2 hk2
      rw [(List.getElem?_eq_some_iff.mp hy2).2] at pm2
      have hm2 : y2 ∈ left.eraseIdx k := pm2.mem_iff.mp List.mem_cons_self
      have hy2b := hb1 y2 (List.mem_cons_of_mem _ hm2)
      have el2 := List.length_eraseIdx_of_lt hk2
      have hne : y2 ≠ y := fun e => nd1.1 (e ▸ hm2)
      rw [enI_erase]
      walk_at "go"
      walk_at "nx"
      walk_at "go"
      refine call0 rfl ⟨⟨by omega, by omega, by omega⟩, fun p q' hp => back0 rfl ?_⟩
      have hpl := hps.1
      walk_at "go"
      refine ⟨_, atD (ns := ps) (k := y) (by omega) (by omega), ?_⟩
      walk_at "go"
      refine ⟨_, atD (ns := ps) (k := y2) (by omega) (by omega), ?_⟩
      have et := enT_len ts
      have a1 := hps.at hyb.1 hyb.2
      have a2 := hps.at hy2b.1 hy2b.2
      have mm := mm_ok hyb hy2b hne
      walk_at "go"
      refine ⟨_, _, _, _, _, _, _, _, _, ps, (left.eraseIdx k).eraseIdx k2, ts ++ [⟨_, _, p, q', atR ps y + atR ps y2⟩], rfl, by rw [enT_snoc]; rfl, by assumption, hps, by omega, (List.nodup_cons.mp (pm2.nodup_iff.mpr nd1.2)).2, fun z hz => hb1 z (List.mem_cons_of_mem _ (pm2.mem_iff.mp (List.mem_cons_of_mem _ hz))), by rw [List.length_append, htl]; rfl, fun t h => ?_⟩
      rcases List.mem_append.mp h with h | h
      · exact ht t h
      · rw [List.mem_singleton.mp h]; exact ⟨mm.1, mm.2.1, mm.2.2, hp, by show 0 ≤ atR ps y + atR ps y2; omega, by show atR ps y + atR ps y2 ≤ 1000; omega⟩
    rintro _ _ ⟨x4, x7, x8, x9, x10, x11, x12, x13, ns, ps, left, ts, rfl, rfl, hd, hps, hll, hnd, hlb, htl, ht⟩
    rw [List.length_map, List.length_range] at htl
    have et := enT_len ts
    walk_at "go"
    have epr : (rangeI 0 ((enT ts).length : Int)).length = ts.length := by rw [rangeI_len, et]; omega
    refine for_i (WMade2 (2 + nn) top (.fl (enI (rangeI 0 ((enT ts).length : Int)))) ns left ts) ⟨_, _, _, _, _, _, _, ps, rfl, rfl, hps⟩ ?_ ?_ ?_
    · rintro _ _ _ _ ⟨x4, x7, x8, x9, x11, x12, x13, ps, rfl, rfl, hps⟩
      rfl
    · rintro i x _ _ hx ⟨x4, x7, x8, x9, x11, x12, x13, ps, rfl, rfl, hps⟩
      obtain ⟨k, hk, hm, rfl⟩ := map_get hx
      have hkb := hlb k hm
      have hpl := hps.1
      walk_at "go"
      refine ⟨_, k.toNat, rfl, ixN_nat hkb.1 (by rw [enI_len]; omega), ?_⟩
      rw [enI_set]
      walk_at "go"
      exact ⟨_, _, _, _, _, _, _, ps.set k.toNat 0, rfl, rfl, hps.set _ (by decide) (by decide)⟩
    rintro _ _ ⟨x4, x7, x8, x9, x11, x12, x13, ps, rfl, rfl, hps⟩
    walk_at "go"
    walk_at "nx"
    walk_at "go"
    rename_i r0 _ _ _ _
    have hr0 : r0 % 7 < 7 := by omega
    refine for_i (WMade3 (2 + nn) top (.fl (enI (rangeI 0 ((enT ts).length : Int)))) ps left ts.length) ⟨_, _, _, _, _, _, _, _, ts, rfl, rfl, by assumption, rfl, ht⟩ (fun _ _ _ _ _ => trivial) ?_ ?_
    · rintro i x _ _ hx ⟨x4, x7, x8, x9, x11, x12, x13, ns, ts2, rfl, rfl, hd, htl2, ht2⟩
      obtain ⟨hi, rfl⟩ := rng_get hx
      have hpl := hps.1
      walk_at "go"
      walk_at "nx"
      rename_i o0 _ _ _ _
      have ho := em2 (x := o0) (n := 2 + nn) (by omega)
      walk_at "go"
      walk_at "nx"
      rename_i o1 _ _ _ _
      have ho1 := em2 (x := o1) (n := 2 + nn - 1) (by omega)
      walk_at "go"
      have wr := wrap_ne (n := 2 + nn) (c := 1 + o1 % (2 + nn - 1)) ho.1 ho.2 (by omega) (by omega)
      rw [← Int.add_assoc] at wr
      generalize o0 % (2 + nn) = one at *
      generalize (one + 1 + o1 % (2 + nn - 1)) % (2 + nn) = other at *
      refine ⟨_, atD (ns := ps) (k := one) (by omega) (by omega), ?_⟩
      walk_at "go"
      refine ⟨_, atD (ns := ps) (k := other) (by omega) (by omega), ?_⟩
      have a1 := hps.at ho.1 ho.2
      have a2 := hps.at wr.1 wr.2.1
      generalize atR ps one = p1 at *
      generalize atR ps other = p2 at *
      walk_at "go"
      walk_at "nx"
      rename_i v0 _ _ _ _
      have hv := em2 (x := v0) (n := p1 + p2 + 1) (by omega)
      walk_at "go"
      walk_at "nx"
      walk_at "go"
      refine ix_ints (P := fun j => 0 ≤ j ∧ j ≤ 1000) (by omega) (by simp; omega) ?_ fun off hoff => ?_
      · intro x hx
        simp only [List.mem_cons, List.not_mem_nil, or_false] at hx
        rcases hx with rfl | rfl | rfl | rfl
        all_goals exact ⟨_, rfl, by omega⟩
      walk_at "go"
      have hw0 : 0 ≤ (if p1 + p2 - off > 0 then p1 + p2 - off else 0) := by split <;> omega
      have hw1 : (if p1 + p2 - off > 0 then p1 + p2 - off else 0) ≤ 1000 := by split <;> omega
      generalize (if p1 + p2 - off > 0 then p1 + p2 - off else 0) = wo at *
      walk_at "nx"
      walk_at "go"
      refine call0 rfl ⟨⟨by omega, by omega, by omega⟩, fun p q' hp => back0 rfl ?_⟩
      have et2 := enT_len ts2
      have mm := mm_ok ho ⟨wr.1, wr.2.1⟩ wr.2.2
      walk_at "go"
      refine ⟨_, _, _, _, _, _, _, _, ts2 ++ [⟨_, _, p, q', wo⟩], rfl, by rw [enT_snoc]; rfl, by assumption, by rw [List.length_append, htl2]; rfl, fun t h => ?_⟩
      rcases List.mem_append.mp h with h | h
      · exact ht2 t h
      · rw [List.mem_singleton.mp h]; exact ⟨mm.1, mm.2.1, mm.2.2, hp, hw0, hw1⟩
    rintro _ _ ⟨x4, x7, x8, x9, x11, x12, x13, ns, ts2, rfl, rfl, hd, htl2, ht2⟩
    rw [List.length_map, List.length_range] at htl2
    have htl3 : ts2.length ≤ 10 := by omega
    walk_at "go"
    refine br_i (fun h => ?_) fun h => ?_
    · walk_at "go"
      walk_at "nx"
      walk_at "go"
      refine br_i (fun h2 => ?_) fun h2 => ?_
      · obtain ⟨a, t, rfl⟩ : ∃ a t, ts2 = a ++ [t] := by
          cases e : ts2.reverse with
          | nil => rw [List.reverse_eq_nil_iff.mp e] at h; cases h
          | cons t r => exact ⟨r.reverse, t, by rw [← List.reverse_reverse ts2, e, List.reverse_cons]⟩
        have ok := ht2 t (by simp)
        walk_at "go"
        refine ⟨_, last_atT a t, ?_⟩
        walk_at "go"
        refine ⟨_, last_atT a t, ?_⟩
        walk_at "go"
        refine ⟨_, a.length, rfl, last_ixT a t, ?_⟩
        have hm0 : 0 ≤ (if t.w + 1 < 1000 then t.w + 1 else 1000) ∧ (if t.w + 1 < 1000 then t.w + 1 else 1000) ≤ 1000 := by have := ok.2.2.2.2.1; split <;> omega
        have ok2 : TieOk (2 + nn) ⟨t.a, t.b, t.p, t.q, if t.w + 1 < 1000 then t.w + 1 else 1000⟩ := ⟨ok.1, ok.2.1, ok.2.2.1, ok.2.2.2.1, hm0.1, hm0.2⟩
        have key := last_setT a t ⟨t.a, t.b, t.p, t.q, if t.w + 1 < 1000 then t.w + 1 else 1000⟩
        show semB _ _ _ (List.set _ 3 (.lst ((enT (a ++ [t])).set a.length (Tie.d ⟨t.a, t.b, t.p, t.q, if t.w + 1 < 1000 then t.w + 1 else 1000⟩))))
        rw [key]
        refine fin _ _ _ _ _ _ _ _ ps left (a ++ [_]) _ (by assumption) hps ?_ (by omega) ?_ _ _ _
        · rw [List.length_append] at htl3 ⊢; exact htl3
        · intro u hu
          rcases List.mem_append.mp hu with h | h
          · exact ht2 u (List.mem_append_left _ h)
          · rw [List.mem_singleton.mp h]; exact ok2
      · exact fin _ _ _ _ _ _ _ _ ps left ts2 _ (by assumption) hps htl3 (by omega) ht2 _ _ _
    · refine br_no rfl ?_
      exact fin _ _ _ _ _ _ _ _ ps left ts2 _ hd hps htl3 (by omega) ht2 _ _ _
  · exact h.elim

def sp_L_bent_prices : DSp := fun ds G Q => match ds, G with
  | [.ref 0, .tup us], [.lst xs] => ∃ ns row, xs = enI ns ∧ us = enI row ∧ Dr ns ∧ 1 ≤ row.length ∧ row.length ≤ 1000 ∧ (∀ p ∈ row, 0 ≤ p ∧ p ≤ 500) ∧ ∀ things ns', things.length ≤ 30 → (∀ d ∈ things, Any d) → Dr ns' → Q (.fl things) [.lst (enI ns')]
  | _, _ => False
def N_L_bent_prices : List Str := ["_law_numbers", "_law_prices", "_law_at", "_law_other", "_law_found", "_law_some", "_law_odd_here", "_law_row"]
def ir_L_bent_prices : List S :=
  [.asg (.nm 2) (.op .Mod (.call "_law_next" sp_L_next [(.var 0)]) (.bi .len [(.var 1)])), .asg (.nm 3) (.op .Mod (.call "_law_next" sp_L_next [(.var 0)]) (.bi .len [(.var 1)])), .asg (.nm 4) (.mk true (.lst [(.slc (.var 1) (some (.lit (.int 1))) none), (.op .Add (.var 1) (.tup [(.lit (.int 0))])), (.mk false (.bi .list [(.var 1)])), (.lit .non), (.tup [])])), .asg (.nm 5) (.mk false (.lst [(.op .Add (.sub (.var 1) (.var 2)) (.lit (.int 1))), (.op .Sub (.sub (.var 1) (.var 2)) (.lit (.int 1))), (.neg (.lit (.int 1))), (.lit (.int 0)), (.lit (.bl true)), (.lit (.bl false)), (.lit .non), (.bi .str [(.sub (.var 1) (.var 2))]), (.tup [(.sub (.var 1) (.var 2)), (.lit (.int 1))]), (.mk false (.lst [(.lit (.int 0))])), (.dct1 0 1)])), .forr (.nm 6) (.seq (.var 5)) [.ex (.met .append (.var 4) [(.op .Add (.op .Add (.slc (.var 1) none (some (.var 2))) (.tup [(.var 6)])) (.slc (.var 1) (some (.op .Add (.var 2) (.lit (.int 1)))) none))])], .iff (.cmp .NotEq (.var 2) (.var 3)) [.asg (.nm 7) (.mk true (.bi .list [(.var 1)])), .setIx (.op .Add (.sub (.var 7) (.var 2)) (.lit (.int 1))) (.var 7) (.var 2), .setIx (.op .Sub (.sub (.var 7) (.var 3)) (.lit (.int 1))) (.var 7) (.var 3), .ex (.met .append (.var 4) [(.bi .tuple [(.var 7)])])] [], .iff (.cmp .In (.lit (.int 1)) (.var 1)) [.ex (.met .append (.var 4) [(.op .Add (.op .Add (.slc (.var 1) none (some (.mtT .index (.var 1) [(.lit (.int 1))]))) (.tup [(.lit (.bl true))])) (.slc (.var 1) (some (.op .Add (.mtT .index (.var 1) [(.lit (.int 1))]) (.lit (.int 1)))) none))])] [], .ret (.var 4)]
theorem ck_L_bent_prices : defOk N_L_bent_prices ["_law_numbers", "_law_prices"] ["len", "list", "str", "tuple"] ir_L_bent_prices (topS 26) = true := by decide +kernel
-- slots: 0=_law_numbers 1=_law_prices 2=_law_at 3=_law_other 4=_law_found 5=_law_some 6=_law_odd_here 7=_law_row | bi: len list str tuple | calls: _law_next | cons: 
structure WBp (row : List Int) (a b : Int) (sm : D) (i : Nat) (ρ : DSt) (G : DHp) : Prop where
  h : ∃ x6 x7 ns things, ρ = [some (.ref 0), some (.tup (enI row)), some (.int a), some (.int b), some (.ref 1), some sm, x6, x7] ∧ G = [.lst (enI ns), .lst things] ∧ Dr ns ∧ things.length = 5 + i ∧ ∀ d ∈ things, Any d
theorem ks_L_bent_prices : Keeps 2 ir_L_bent_prices N_L_bent_prices sp_L_bent_prices := by
  intro ds G Q h
  unfold sp_L_bent_prices at h
  split at h
  · obtain ⟨ns, row, rfl, rfl, hd, hr1, hrl, hrb, q⟩ := h
    have erl := enI_len row
    refine ⟨rfl, ?_⟩
    walk_at "go"
    walk_at "nx"
    rename_i a0 _ _ _ _
    have ha := em2 (x := a0) (n := ((enI row).length : Int)) (by omega)
    walk_at "go"
    walk_at "nx"
    rename_i b0 _ _ _ _
    have hb := em2 (x := b0) (n := ((enI row).length : Int)) (by omega)
    walk_at "go"
    generalize a0 % ((enI row).length : Int) = a at *
    generalize b0 % ((enI row).length : Int) = b at *
    have r := RowL.ints row hrl
    have pa : 0 ≤ atR row a ∧ atR row a ≤ 500 := hrb _ (atR_mem (by omega) (by omega))
    have hlog : (atR row a).natAbs.log2 < 1920 := by
      have : (atR row a).natAbs.log2 < 10 := by
        by_cases h : (atR row a).natAbs = 0
        · rw [h]; decide
        · exact (Nat.log2_lt h).mpr (by omega)
      omega
    refine ⟨_, atD (ns := row) (k := a) (by omega) (by omega), ?_⟩
    walk_at "go"
    refine ⟨_, atD (ns := row) (k := a) (by omega) (by omega), ?_⟩
    walk_at "go"
    refine ⟨_, atD (ns := row) (k := a) (by omega) (by omega), ?_⟩
    walk_at "go"
    refine ⟨_, atD (ns := row) (k := a) (by omega) (by omega), ?_⟩
    walk_at "go"
    have fin : ∀ x6 x7 sm ns things G, Dr ns → things.length ≤ 29 → (∀ d ∈ things, Any d) → ∀ nx bk ct, semB (ir_L_bent_prices.drop 6) ⟨nx, dForget 1 Q, bk, ct⟩ [some (.ref 0), some (.tup (enI row)), some (.int a), some (.int b), some (.ref 1), some sm, x6, x7] (.lst (enI ns) :: .lst things :: G) := by
      intro x6 x7 sm ns things G hd hl ht nx bk ct
      walk_at "go"
      show br (memD (.int 1) (enI row)) _ _
      rw [memD_ints]
      refine br_i (fun h => ?_) fun h => ?_
      · have hm : (1 : Int) ∈ row := of_decide_eq_true h
        walk_at "go"
        refine indexT_ints hm fun j => ?_
        walk_at "go"
        refine indexT_ints hm fun j2 => ?_
        have hlt : things.length < sizeLine := by rw [sizeLine_eq]; omega
        walk_at "go"
        have hall : ∀ d ∈ things ++ [D.tup (DL.cutD (enI row) none (some (j : Int)) ++ [D.bl true] ++ DL.cutD (enI row) (some ((j2 : Int) + 1)) none)], Any d := by
          intro d h
          rcases List.mem_append.mp h with h | h
          · exact ht d h
          · rw [List.mem_singleton.mp h]
            exact (((r.cut _ _).app (RowL.one rfl)).app (r.cut _ _)).any (by decide)
        exact fin1f (j := 0) rfl rfl (enI_wf _) (wf_any hall) (q _ _ (by rw [List.length_append]; show things.length + 1 ≤ 30; omega) hall hd)
      · walk_at "go"
        exact fin1f (j := 0) rfl rfl (enI_wf _) (wf_any ht) (q _ _ (by omega) ht hd)
    refine for_i (WBp row a b _) ⟨_, _, _, _, rfl, rfl, by assumption, rfl, ?_⟩ (fun _ _ _ _ _ => trivial) ?_ ?_
    · exact all_any ((r.cut _ _).any (by decide)) (all_any ((r.app (RowL.one rfl)).any (by decide)) (all_any (any_fl (enI_wf _)) (all_any (any_of rfl) (all_any (any_of rfl) fun d hd => absurd hd (by simp)))))
    · rintro i x _ _ hx ⟨x6, x7, ns, things, rfl, rfl, hd, hl, ht⟩
      have hi := (List.getElem?_eq_some_iff.mp hx).1
      have hi : i < 11 := hi
      have hox : ok1 x = true := by
        have : ([D.int (atR row a + 1), .int (atR row a - 1), .int (-1), .int 0, .bl true, .bl false, .non, .str (Str.ofString (toString (atR row a))), .tup [.int (atR row a), .int 1], .fl [.int 0], .fd].all ok1) = true := rfl
        exact List.all_eq_true.mp this x (List.mem_of_getElem? hx)
      walk_at "go"
      refine ⟨_, _, ns, _, rfl, rfl, hd, by rw [List.length_append, hl]; rfl, fun d h => ?_⟩
      rcases List.mem_append.mp h with h | h
      · exact ht d h
      · rw [List.mem_singleton.mp h]
        exact (((r.cut _ _).app (RowL.one hox)).app (r.cut _ _)).any (by decide)
    rintro _ _ ⟨x6, x7, ns, things, rfl, rfl, hd, hl, ht⟩
    have hl : things.length = 16 := hl
    walk_at "go"
    refine br_i (fun h => ?_) fun h => ?_
    · walk_at "go"
      refine ⟨_, atD (ns := row) (k := a) (by omega) (by omega), ?_⟩
      walk_at "go"
      refine ⟨_, a.toNat, rfl, ixN_nat (by omega) (by omega), ?_⟩
      rw [enI_set]
      have hl3 : (row.set a.toNat (atR row a + 1)).length = row.length := List.length_set ..
      have e3 := enI_len (row.set a.toNat (atR row a + 1))
      walk_at "go"
      refine ⟨_, atD (ns := row.set a.toNat (atR row a + 1)) (k := b) (by omega) (by omega), ?_⟩
      walk_at "go"
      refine ⟨_, b.toNat, rfl, ixN_nat (by omega) (by omega), ?_⟩
      rw [enI_set]
      have hlt : things.length < sizeLine := by rw [sizeLine_eq]; omega
      conv => whnf
      refine And.intro (by walk_at "side") ?_
      conv => whnf
      refine Exists.intro _ (And.intro rfl ?_)
      conv => whnf
      refine Exists.intro _ (And.intro rfl (And.intro hlt ?_))
      refine fin _ _ _ ns _ _ hd ?_ ?_ _ _ _
      · rw [List.length_append, hl]; show 16 + 1 ≤ 29; decide
      · intro d h
        rcases List.mem_append.mp h with h | h
        · exact ht d h
        · rw [List.mem_singleton.mp h]
          exact (RowL.ints _ (by rw [List.length_set, hl3]; exact hrl)).any (by decide)
    · exact fin _ _ _ ns things [] hd (by omega) ht _ _ _
  · exact h.elim

def sp_L_bent_pairing : DSp := fun ds G Q => match ds, G with
  | [.ref 0, w, .tup us], [.lst xs] => ∃ web ns row, w = Web.d web ∧ xs = enI ns ∧ us = enI row ∧ Dr ns ∧ web.ts.length ≤ 1000 ∧ row.length ≤ 1000 ∧ ∀ things ns', things.length ≤ 30 → (∀ d ∈ things, Any d) → Dr ns' → Q (.fl things) [.lst (enI ns')]
  | _, _ => False
def N_L_bent_pairing : List Str := ["_law_numbers", "_law_web", "_law_pairing", "_law_at", "_law_found", "_law_odd_here"]
def ir_L_bent_pairing : List S :=
  [.asg (.nm 3) (.op .Mod (.call "_law_next" sp_L_next [(.var 0)]) (.op .Add (.bi .len [(.var 2)]) (.lit (.int 1)))), .asg (.nm 4) (.mk true (.lst [(.op .Add (.slc (.var 2) none (some (.var 3))) (.slc (.var 2) (some (.op .Add (.var 3) (.lit (.int 1)))) none)), (.op .Add (.var 2) (.slc (.var 2) none (some (.lit (.int 1))))), (.revT (.var 2)), (.mk false (.bi .list [(.var 2)])), (.lit .non), (.tup [(.var 2)])])), .forr (.nm 5) (.seq (.mk false (.lst [(.op .Mod (.call "_law_next" sp_L_next [(.var 0)]) (.op .Add (.bi .len [(.sub (.var 1) (.lit (.int 1)))]) (.lit (.int 1)))), (.bi .len [(.sub (.var 1) (.lit (.int 1)))]), (.neg (.lit (.int 1))), (.lit (.bl true)), (.lit (.bl false)), (.lit .non), (.lit (.str (Str.ofString "0"))), (.tup [(.lit (.int 0))]), (.mk false (.lst [(.lit (.int 0))])), (.dct1 0 1)]))) [.ex (.met .append (.var 4) [(.op .Add (.op .Add (.slc (.var 2) none (some (.var 3))) (.tup [(.var 5)])) (.slc (.var 2) (some (.op .Add (.var 3) (.lit (.int 1)))) none))]), .ex (.met .append (.var 4) [(.op .Add (.op .Add (.slc (.var 2) none (some (.var 3))) (.tup [(.var 5)])) (.slc (.var 2) (some (.var 3)) none))])], .iff (.cmp .In (.lit (.int 1)) (.var 2)) [.ex (.met .append (.var 4) [(.op .Add (.op .Add (.slc (.var 2) none (some (.mtT .index (.var 2) [(.lit (.int 1))]))) (.tup [(.lit (.bl true))])) (.slc (.var 2) (some (.op .Add (.mtT .index (.var 2) [(.lit (.int 1))]) (.lit (.int 1)))) none))])] [], .ret (.var 4)]
theorem ck_L_bent_pairing : defOk N_L_bent_pairing ["_law_numbers", "_law_web", "_law_pairing"] ["len", "list"] ir_L_bent_pairing (topS 27) = true := by decide +kernel
-- slots: 0=_law_numbers 1=_law_web 2=_law_pairing 3=_law_at 4=_law_found 5=_law_odd_here | bi: len list | calls: _law_next | cons: 
structure WBq (web : Web) (row : List Int) (a : Int) (i : Nat) (ρ : DSt) (G : DHp) : Prop where
  h : ∃ x5 ns things, ρ = [some (.ref 0), some web.d, some (.tup (enI row)), some (.int a), some (.ref 1), x5] ∧ G = [.lst (enI ns), .lst things] ∧ Dr ns ∧ things.length = 6 + 2 * i ∧ ∀ d ∈ things, Any d
theorem ks_L_bent_pairing : Keeps 3 ir_L_bent_pairing N_L_bent_pairing sp_L_bent_pairing := by
  intro ds G Q h
  unfold sp_L_bent_pairing at h
  split at h
  · obtain ⟨web, ns, row, rfl, rfl, rfl, hd, hwl, hrl, q⟩ := h
    have ewl := enT_len web.ts
    refine ⟨rfl, ?_⟩
    walk_at "go"
    walk_at "nx"
    rename_i a0 _ _ _ _
    have erl := enI_len row
    have ha := em2 (x := a0) (n := ((enI row).length : Int) + 1) (by omega)
    have r := RowL.ints row hrl
    walk_at "go"
    generalize a0 % (((enI row).length : Int) + 1) = a at *
    walk_at "nx"
    rename_i b0 _ _ _ _
    have hb := em2 (x := b0) (n := ((enT web.ts).length : Int) + 1) (by omega)
    walk_at "go"
    generalize b0 % (((enT web.ts).length : Int) + 1) = b at *
    refine for_i (WBq web row a) ⟨_, _, _, rfl, rfl, by assumption, rfl, ?_⟩ (fun _ _ _ _ _ => trivial) ?_ ?_
    · have k : ∀ {a : Nat} {xs : List D}, RowL a xs → a ≤ 4000 → Any (.tup xs) := fun h h' => h.any h'
      refine all_any (k ((r.cut _ _).app (r.cut _ _)) (by decide)) (all_any (k (r.app (r.cut _ _)) (by decide)) (all_any (k r.rev (by decide)) (all_any (any_fl (enI_wf _)) (all_any (any_of rfl) (all_any (k (RowL.one ?_) (by decide)) fun d hd => absurd hd (by simp))))))
      show (wfL 0 (enI row) && true) = true
      rw [enI_wf]; rfl
    · rintro i x _ _ hx ⟨x5, ns, things, rfl, rfl, hd, hl, ht⟩
      have hi := (List.getElem?_eq_some_iff.mp hx).1
      have hi : i < 10 := hi
      have hox : ok1 x = true := by
        have : ([D.int b, .int ((enT web.ts).length : Int), .int (-1), .bl true, .bl false, .non, .str (Str.ofString "0"), .tup [.int 0], .fl [.int 0], .fd].all ok1) = true := rfl
        exact List.all_eq_true.mp this x (List.mem_of_getElem? hx)
      walk_at "go"
      refine ⟨_, ns, _, rfl, rfl, hd, by rw [List.length_append, List.length_append, hl]; simp; omega, fun d h => ?_⟩
      rcases List.mem_append.mp h with h | h
      · rcases List.mem_append.mp h with h | h
        · exact ht d h
        · rw [List.mem_singleton.mp h]
          exact (((r.cut _ _).app (RowL.one hox)).app (r.cut _ _)).any (by decide)
      · rw [List.mem_singleton.mp h]
        exact (((r.cut _ _).app (RowL.one hox)).app (r.cut _ _)).any (by decide)
    · rintro _ _ ⟨x5, ns, things, rfl, rfl, hd, hl, ht⟩
      have hl : things.length = 26 := hl
      walk_at "go"
      show br (memD (.int 1) (enI row)) _ _
      rw [memD_ints]
      refine br_i (fun h => ?_) fun h => ?_
      · have hm : (1 : Int) ∈ row := of_decide_eq_true h
        walk_at "go"
        refine indexT_ints hm fun j => ?_
        walk_at "go"
        refine indexT_ints hm fun j2 => ?_
        walk_at "go"
        have hall : ∀ d ∈ things ++ [D.tup (DL.cutD (enI row) none (some (j : Int)) ++ [D.bl true] ++ DL.cutD (enI row) (some ((j2 : Int) + 1)) none)], Any d := by
          intro d h
          rcases List.mem_append.mp h with h | h
          · exact ht d h
          · rw [List.mem_singleton.mp h]
            exact (((r.cut _ _).app (RowL.one rfl)).app (r.cut _ _)).any (by decide)
        exact fin1f (j := 0) rfl rfl (enI_wf _) (wf_any hall) (q _ _ (by rw [List.length_append, hl]; show 26 + 1 ≤ 30; decide) hall hd)
      · walk_at "go"
        exact fin1f (j := 0) rfl rfl (enI_wf _) (wf_any ht) (q _ _ (by omega) ht hd)
  · exact h.elim

def sp_law : DSp := fun ds G Q => match ds, G with
  | [.sl xs], [] => ∃ ns : List Int, xs = enI ns ∧ ns.length ≤ 63 ∧ Q (.bl true) []
  | _, _ => False
def N_law : List Str := ["_law_script", "_law_numbers", "_law_turn", "_law_web", "_law_paper", "_law_pairing", "_law_prices", "_law_things", "_law_one", "_law_thing"]
def ir_law : List S :=
  [.asg (.nm 1) (.call "_law_draws" sp_L_draws [(.var 0)]), .forr (.nm 2) (.rng1 (.op .Add (.lit (.int 2)) (.bi .min [(.lit (.int 5)), (.bi .len [(.var 0)])]))) [.asg (.tp [(.nm 3), (.nm 4)]) (.call "_law_made" sp_L_made [(.var 1)]), .asg (.tp [(.nm 5), (.nm 6)]) (.var 4), .asg (.nm 7) (.mk false (.lst [(.var 4), (.mk false (.bi .list [(.var 4)])), (.op .Add (.var 4) (.tup [(.tup [])])), (.tup [(.var 6), (.var 5)]), (.slc (.var 4) none (some (.lit (.int 1)))), (.call "_law_odd" sp_L_odd [(.call "_law_next" sp_L_next [(.var 1)])])])), .asg (.nm 7) (.mk false (.op .Add (.var 7) (.mk false (.lc [("_law_one", 8)] (.nm 8) (.seq (.call "_law_bent_prices" sp_L_bent_prices [(.var 1), (.var 6)])) none (.tup [(.var 5), (.var 8)]))))), .asg (.nm 7) (.mk true (.op .Add (.var 7) (.mk false (.lc [("_law_one", 8)] (.nm 8) (.seq (.call "_law_bent_pairing" sp_L_bent_pairing [(.var 1), (.var 3), (.var 5)])) none (.tup [(.var 8), (.var 6)]))))), .ex (.met .append (.var 7) [(.tup [(.call "_law_odd" sp_L_odd [(.call "_law_next" sp_L_next [(.var 1)])]), (.call "_law_odd" sp_L_odd [(.call "_law_next" sp_L_next [(.var 1)])])])]), .forr (.nm 9) (.seq (.var 7)) [.iff (.nt (.tru (.call "_law_says" sp_L_says [(.call "heaviest_holds" sp_heaviest_holds [(.var 3), (.var 9)]), (.call "_law_is_heaviest" sp_L_is_heaviest [(.var 3), (.var 9)])]))) [.ret (.lit (.bl false))] []]], .ret (.cmp .Is (.call "heaviest_holds" sp_heaviest_holds [(.tup [(.lit (.int 0)), (.tup []), (.tup []), (.lit (.int 0))]), (.tup [(.tup []), (.tup [])])]) (.lit (.bl true)))]
theorem ck_law : defOk N_law ["_law_script"] ["range", "min", "len", "list"] ir_law (topS 28) = true := by decide +kernel
-- slots: 0=_law_script 1=_law_numbers 2=_law_turn 3=_law_web 4=_law_paper 5=_law_pairing 6=_law_prices 7=_law_things 8=_law_one 9=_law_thing | bi: range min len list | calls: _law_draws _law_made _law_odd _law_next _law_bent_prices _law_bent_pairing _law_says heaviest_holds _law_is_heaviest | cons: 
structure WLaw (s : List Int) (i : Nat) (ρ : DSt) (G : DHp) : Prop where
  h : ∃ x2 x3 x4 x5 x6 x7 x8 x9 ns J, ρ = [some (.sl (enI s)), some (.ref 0), x2, x3, x4, x5, x6, x7, x8, x9] ∧ G = .lst (enI ns) :: J ∧ Dr ns
theorem any2_tup {xs : List D} (h : xs.length ≤ 4000) (ha : ∀ x ∈ xs, Any x) : Any2 (.tup xs) := ⟨RowL.any (k := xs.length) ⟨Nat.le_refl _, fun x hx => (ha x hx).o⟩ h, fun ys e x hx => by cases e; exact ha x hx⟩
theorem any2_fl {xs : List D} (h : wfL 0 xs = true) : Any2 (.fl xs) := ⟨any_fl h, fun ys e => by cases e⟩
theorem all_any2 {a : D} {l : List D} (h : Any2 a) (t : ∀ d ∈ l, Any2 d) : ∀ d ∈ a :: l, Any2 d := fun d hd => (List.mem_cons.mp hd).elim (fun e => e ▸ h) (t d)
theorem any_app {a b : List D} (h : ∀ d ∈ a, Any2 d) (h' : ∀ d ∈ b, Any2 d) : ∀ d ∈ a ++ b, Any2 d := fun d hd => (List.mem_append.mp hd).elim (h d) (h' d)
theorem ref_last {a : DO} {J : DHp} {xs : List D} : (a :: (J ++ [.lst xs]))[J.length + 1]? = some (.lst xs) := by
  rw [List.getElem?_cons_succ, List.getElem?_append_right (Nat.le_refl _), Nat.sub_self]; rfl
theorem list_last {a : DO} {J : DHp} {xs : List D} : DL.listOf (a :: (J ++ [.lst xs])) (.ref (J.length + 1)) = some xs := by
  unfold DL.listOf
  rw [view_ref, ref_last]; rfl
theorem set_last {a : DO} {J : DHp} {xs : List D} {o : DO} : (a :: (J ++ [.lst xs])).set (J.length + 1) o = a :: (J ++ [o]) := by
  rw [List.set_cons_succ, List.set_append_right _ _ (Nat.le_refl _), Nat.sub_self]; rfl
structure WLaw4 (s : List Int) (x2 x4 x5 x6 x8 : Option D) (web : Web) (r : Nat) (G0 : DHp) (i : Nat) (ρ : DSt) (G : DHp) : Prop where
  h : ∃ x9, ρ = [some (.sl (enI s)), some (.ref 0), x2, some web.d, x4, x5, x6, some (.ref r), x8, x9] ∧ G = G0
theorem ks_law : Keeps 1 ir_law N_law sp_law := by
  intro ds G Q h
  unfold sp_law at h
  split at h
  · obtain ⟨s, rfl, hs, q⟩ := h
    have es := enI_len s
    refine ⟨rfl, ?_⟩
    walk_at "go"
    refine call0 (wfL_cons (enI_wf s) rfl) ⟨⟨s, rfl⟩, fun ms hd => backN (enI_wf ms) ?_⟩
    walk_at "go"
    refine for_i (WLaw s) ⟨_, _, _, _, _, _, _, _, ms, [], rfl, rfl, hd⟩ (fun _ _ _ _ _ => trivial) ?_ ?_
    · rintro i x _ _ hx ⟨x2, x3, x4, x5, x6, x7, x8, x9, ns, J, rfl, rfl, hd⟩
      obtain ⟨_, rfl⟩ := rng_get hx
      walk_at "go"
      refine call1 rfl (enI_wf _) rfl ⟨⟨_, rfl, hd⟩, fun web pr ps ns2 wok hpr hps1 hps2 hpb hd2 => back1 ?_ (enI_wf _) ?_⟩
      · show (wfD 0 web.d && ((wfL 0 (enI pr) && (wfL 0 (enI ps) && true)) && true)) = true
        rw [web_wf, enI_wf, enI_wf]; rfl
      have ap : Any (.tup (enI pr)) := (RowL.ints pr (show pr.length ≤ 1000 by omega)).any (by decide)
      have as : Any (.tup (enI ps)) := (RowL.ints ps (show ps.length ≤ 1000 by omega)).any (by decide)
      have wtl := wok.tl
      walk_at "go"
      have wbody : ∀ x2 x4 x5 x6 x8 x9 ns J things, Dr ns → things.length ≤ 1000 → (∀ d ∈ things, Any2 d) → ∀ bk ct, semB ((fbody (ir_law.getD 1 .pass)).drop 5) ⟨WLaw s (i + 1), dForget 0 Q, bk, ct⟩
          [some (.sl (enI s)), some (.ref 0), x2, some web.d, x4, x5, x6, some (.ref (J.length + 1)), x8, x9] (.lst (enI ns) :: (J ++ [.lst things])) := by
        intro x2 x4 x5 x6 x8 x9 ns J things hd hl ha bk ct
        conv => whnf
        refine And.intro (And.intro rfl ⟨things, list_last⟩) ?_
        conv => whnf
        walk_at "nx"
        refine call0 rfl ⟨by assumption, fun d1 h1 => back0 (ok1_wf h1.o) ?_⟩
        conv => whnf
        walk_at "nx"
        refine call0 rfl ⟨by assumption, fun d2 h2 => back0 (ok1_wf h2.o) ?_⟩
        conv => whnf
        refine And.intro (by walk_at "side") ?_
        conv => whnf
        refine ⟨things, ref_last, by rw [sizeLine_eq]; omega, ?_⟩
        have hall : ∀ d ∈ things ++ [D.tup [d1, d2]], Any2 d := any_app ha (all_any2 (any2_tup (show 2 ≤ 4000 by decide) (all_any h1.toAny (all_any h2.toAny fun d hd => absurd hd (by simp)))) fun d hd => absurd hd (by simp))
        rename_i ns' _ _ hd'
        show semB _ _ _ ((.lst (enI ns') :: (J ++ [.lst things])).set (J.length + 1) (.lst (things ++ [D.tup [d1, d2]])))
        rw [set_last]
        conv => whnf
        refine ⟨_, list_last, ?_⟩
        refine for_i (WLaw4 s _ _ _ _ _ web (J.length + 1) (.lst (enI ns') :: (J ++ [.lst (things ++ [D.tup [d1, d2]])]))) ⟨_, rfl, rfl⟩ ?_ ?_ ?_
        · rintro _ _ _ _ ⟨x9, rfl, rfl⟩
          exact list_last
        · rintro j x _ _ hx ⟨x9, rfl, rfl⟩
          have hx := hall x (List.mem_of_getElem? hx)
          walk_at "go"
          refine call0 (wfL_cons (web_wf web) (wfL_cons (ok1_wf hx.o) rfl)) ⟨web, rfl, by omega, wok.ts, hx, back0 rfl ?_⟩
          walk_at "go"
          refine call0 (wfL_cons (web_wf web) (wfL_cons (ok1_wf hx.o) rfl)) ⟨web, rfl, by omega, wok.ts, hx, back0 rfl ?_⟩
          walk_at "go"
          refine call0 rfl ?_
          show back [] _ _ (.bl (decide (heavB web x = heavB web x))) []
          rw [decide_eq_true rfl]
          refine back0 rfl ?_
          walk_at "go"
          exact ⟨_, rfl, rfl⟩
        · rintro _ _ ⟨x9, rfl, rfl⟩
          walk_at "go"
          exact ⟨_, _, _, _, _, _, _, _, _, _, rfl, rfl, by assumption⟩
      walk_at "nx"
      refine call0 rfl ⟨by assumption, fun d0 h0 => back0 (ok1_wf h0.o) ?_⟩
      walk_at "go"
      refine call1 rfl (enI_wf _) (wfL_cons (enI_wf ps) rfl) ⟨_, ps, rfl, rfl, by assumption, by omega, by omega, hpb, fun more ns3 hml hma hd3 => back1 (wf_any hma) (enI_wf _) ?_⟩
      walk_at "go"
      refine lc_all (l := more) (enc := fun x => x) (fun x => .tup [.tup (enI pr), x]) (by simp) (.inl rfl) trivial ?_ ?_
      · intro x hx Y hY
        walk_at "go"
        exact hY
      have e1 : (more.map fun x => D.tup [D.tup (enI pr), x]).length = more.length := List.length_map ..
      walk_at "go"
      refine call1 rfl (enI_wf _) (wfL_cons (web_wf web) (wfL_cons (enI_wf pr) rfl)) ⟨web, _, pr, rfl, rfl, rfl, hd3, by omega, by omega, fun more2 ns4 hml2 hma2 hd4 => back1 (wf_any hma2) (enI_wf _) ?_⟩
      conv => whnf
      refine lc_all (l := more2) (enc := fun x => x) (fun x => .tup [x, .tup (enI ps)]) (by simp) (.inl rfl) trivial ?_ ?_
      · intro x hx Y hY
        walk_at "go"
        exact hY
      conv => whnf
      refine Exists.intro _ (Exists.intro _ (And.intro rfl (And.intro rfl (And.intro ?_ ?_))))
      · rw [List.length_append, List.length_map, List.length_map, sizeLine_eq]
        show 6 + more.length + more2.length ≤ 16777216
        omega
      have cut1 : DL.cutD [D.tup (enI pr), D.tup (enI ps)] none (some 1) = [D.tup (enI pr)] := rfl
      refine wbody _ _ _ _ _ _ ns4 J _ hd4 ?_ ?_ _ _
      · rw [List.length_append, List.length_append, List.length_map, List.length_map]
        show 6 + more.length + more2.length ≤ 1000
        omega
      · rw [cut1]
        refine any_app (any_app (all_any2 (any2_tup (show 2 ≤ 4000 by decide) (all_any ap (all_any as fun d hd => absurd hd (by simp)))) (all_any2 (any2_fl ?_) (all_any2 (any2_tup (show 3 ≤ 4000 by decide) (all_any ap (all_any as (all_any (any_of rfl) fun d hd => absurd hd (by simp)))))
          (all_any2 (any2_tup (show 2 ≤ 4000 by decide) (all_any as (all_any ap fun d hd => absurd hd (by simp)))) (all_any2 (any2_tup (show 1 ≤ 4000 by decide) (all_any ap fun d hd => absurd hd (by simp))) (all_any2 h0 fun d hd => absurd hd (by simp))))))) ?_) ?_
        · exact wf_any (all_any ap (all_any as fun d hd => absurd hd (by simp)))
        · intro d hd
          obtain ⟨x, hx, rfl⟩ := List.mem_map.mp hd
          exact any2_tup (show 2 ≤ 4000 by decide) (all_any ap (all_any (hma x hx) fun d hd => absurd hd (by simp)))
        · intro d hd
          obtain ⟨x, hx, rfl⟩ := List.mem_map.mp hd
          exact any2_tup (show 2 ≤ 4000 by decide) (all_any (hma2 x hx) (all_any as fun d hd => absurd hd (by simp)))
    · rintro _ _ ⟨x2, x3, x4, x5, x6, x7, x8, x9, ns, J, rfl, rfl, hd⟩
      walk_at "go"
      refine call0 rfl ⟨⟨0, [], [], 0⟩, rfl, by decide, fun t h => absurd h (by simp), any2_of rfl, back0 rfl ?_⟩
      walk_at "go"
      exact fin0 rfl rfl q
  · exact h.elim

/-- what the law's call is asked -/
def lawSp (K : PySem.W.Frag) : Sp := fun vs H Q _ => ∃ (a : Addr) (ns : List Int), vs = [.ref a] ∧ SqL K H a (ns.map V.int) ∧ ns.length ≤ 63 ∧ ∀ H', Q (.bl true) H'
theorem lawSp_in {K : PySem.W.Frag} {H : Hp} {a : Addr} {ns : List Int} {E : XK} (hl : ns.length ≤ 63) (hS : SqL K H a (ns.map V.int)) : lawSp K [.ref a] H (fun v _ => v = .bl true) E := ⟨a, ns, rfl, hS, hl, fun _ => rfl⟩
theorem lawSp_ok {K : PySem.W.Frag} {mg : Str → Option Value} (vs : List V) (H : Hp) (Q : VK) (E : XK) (h : lawSp K vs H Q E) : liftSp K mg sp_law vs H Q E := by
  obtain ⟨a, ns, rfl, hS, hl, q⟩ := h
  refine ⟨[.sl (enI ns)], [], H, fun _ => none, [], fun d _ => d = .bl true, ⟨fun _ _ e => e, fun _ _ e => by (cases e), fun _ _ e => by (cases e), rfl, fun i o e => by simp at e, fun b hb => absurd hb (by simp), List.nodup_nil, trivial⟩, .cons (.sl hS (RepL.of_ints ns) ?_) .nil, ⟨ns, rfl, hl, rfl⟩, ?_⟩
  · rw [enI, List.length_map, sizeLine_eq]; omega
  · rintro d G' v H' F' m' _ _ _ r rfl
    cases r
    exact q H'
theorem fn_mono {P : Program} {w : World} {K : PySem.W.Frag} {mg : Str → Option Value} {base : Heap} {j k : Nat} {x : Str} {sp : DSp} (h : FnAt P w K mg base j x sp) (hj : j ≤ k) : FnAt P w K mg base k x sp := by
  obtain ⟨f, fd, ps, ok, em, ek, eb⟩ := h
  exact ⟨f, fd, ps, ok.mono hj, em, ek, eb⟩
theorem fn_nil {P : Program} {w : World} {K : PySem.W.Frag} {mg : Str → Option Value} {base : Heap} {k : Nat} : ∀ f sp, (f, sp) ∈ ([] : List (Str × DSp)) → FnAt P w K mg base k f sp := fun f sp h => absurd h (by simp)
theorem fn_cons {P : Program} {w : World} {K : PySem.W.Frag} {mg : Str → Option Value} {base : Heap} {k : Nat} {x : Str} {s : DSp} {l : List (Str × DSp)} (h : FnAt P w K mg base k x s) (t : ∀ f sp, (f, sp) ∈ l → FnAt P w K mg base k f sp) : ∀ f sp, (f, sp) ∈ (x, s) :: l → FnAt P w K mg base k f sp := fun f sp hm => by
  rcases List.mem_cons.mp hm with e | hm
  · cases e; exact h
  · exact t f sp hm
theorem con_nil {K : PySem.W.Frag} {mg : Str → Option Value} : ∀ x d, (x, d) ∈ ([] : List (Str × D)) → ConAt K mg x d := fun f sp h => absurd h (by simp)
theorem con_cons {K : PySem.W.Frag} {mg : Str → Option Value} {x : Str} {d : D} {l : List (Str × D)} (h : ConAt K mg x d) (t : ∀ x d, (x, d) ∈ l → ConAt K mg x d) : ∀ y e, (y, e) ∈ (x, d) :: l → ConAt K mg y e := fun f sp hm => by
  rcases List.mem_cons.mp hm with e | hm
  · cases e; exact h
  · exact t f sp hm
theorem bi_nil {mg : Str → Option Value} : ∀ x, ([] : List Str).contains x = true → mg x = none := fun x h => by simp at h
theorem bi_cons {mg : Str → Option Value} {a : Str} {l : List Str} (h : mg a = none) (t : ∀ x, l.contains x = true → mg x = none) : ∀ x, (a :: l).contains x = true → mg x = none := fun x hx => by
  rw [List.contains_cons, Bool.or_eq_true] at hx
  rcases hx with e | hx
  · rw [beq_iff_eq.mp e]; exact h
  · exact t x hx

def LF_L_mixed : List (Str × DSp) := []
def LC_L_mixed : List (Str × D) := []
theorem us_L_mixed : usB (fun f sp => (f, sp) ∈ LF_L_mixed) (fun x d => (x, d) ∈ LC_L_mixed) ir_L_mixed := by
  simp [usB, usS, us, usT, usN, usI, usL, usO, usC, ir_L_mixed, LF_L_mixed, LC_L_mixed]
def LF_L_next : List (Str × DSp) := []
def LC_L_next : List (Str × D) := []
theorem us_L_next : usB (fun f sp => (f, sp) ∈ LF_L_next) (fun x d => (x, d) ∈ LC_L_next) ir_L_next := by
  simp [usB, usS, us, usT, usN, usI, usL, usO, usC, ir_L_next, LF_L_next, LC_L_next]
def LF_L_gcd : List (Str × DSp) := []
def LC_L_gcd : List (Str × D) := []
theorem us_L_gcd : usB (fun f sp => (f, sp) ∈ LF_L_gcd) (fun x d => (x, d) ∈ LC_L_gcd) ir_L_gcd := by
  simp [usB, usS, us, usT, usN, usI, usL, usO, usC, ir_L_gcd, LF_L_gcd, LC_L_gcd]
def LF_is_number : List (Str × DSp) := []
def LC_is_number : List (Str × D) := []
theorem us_is_number : usB (fun f sp => (f, sp) ∈ LF_is_number) (fun x d => (x, d) ∈ LC_is_number) ir_is_number := by
  simp [usB, usS, us, usT, usN, usI, usL, usO, usC, ir_is_number, LF_is_number, LC_is_number]
def LF_ends_of : List (Str × DSp) := []
def LC_ends_of : List (Str × D) := []
theorem us_ends_of : usB (fun f sp => (f, sp) ∈ LF_ends_of) (fun x d => (x, d) ∈ LC_ends_of) ir_ends_of := by
  simp [usB, usS, us, usT, usN, usI, usL, usO, usC, ir_ends_of, LF_ends_of, LC_ends_of]
def LF_L_says : List (Str × DSp) := []
def LC_L_says : List (Str × D) := []
theorem us_L_says : usB (fun f sp => (f, sp) ∈ LF_L_says) (fun x d => (x, d) ∈ LC_L_says) ir_L_says := by
  simp [usB, usS, us, usT, usN, usI, usL, usO, usC, ir_L_says, LF_L_says, LC_L_says]
def LF_L_odd : List (Str × DSp) := []
def LC_L_odd : List (Str × D) := []
theorem us_L_odd : usB (fun f sp => (f, sp) ∈ LF_L_odd) (fun x d => (x, d) ∈ LC_L_odd) ir_L_odd := by
  simp [usB, usS, us, usT, usN, usI, usL, usO, usC, ir_L_odd, LF_L_odd, LC_L_odd]
def LF_worth_in : List (Str × DSp) := []
def LC_worth_in : List (Str × D) := []
theorem us_worth_in : usB (fun f sp => (f, sp) ∈ LF_worth_in) (fun x d => (x, d) ∈ LC_worth_in) ir_worth_in := by
  simp [usB, usS, us, usT, usN, usI, usL, usO, usC, ir_worth_in, LF_worth_in, LC_worth_in]
def LF_L_whole : List (Str × DSp) := []
def LC_L_whole : List (Str × D) := []
theorem us_L_whole : usB (fun f sp => (f, sp) ∈ LF_L_whole) (fun x d => (x, d) ∈ LC_L_whole) ir_L_whole := by
  simp [usB, usS, us, usT, usN, usI, usL, usO, usC, ir_L_whole, LF_L_whole, LC_L_whole]
def LF_L_low : List (Str × DSp) := [("_law_gcd", sp_L_gcd)]
def LC_L_low : List (Str × D) := []
theorem us_L_low : usB (fun f sp => (f, sp) ∈ LF_L_low) (fun x d => (x, d) ∈ LC_L_low) ir_L_low := by
  simp [usB, usS, us, usT, usN, usI, usL, usO, usC, ir_L_low, LF_L_low, LC_L_low]
def LF_L_draws : List (Str × DSp) := [("_law_mixed", sp_L_mixed)]
def LC_L_draws : List (Str × D) := []
theorem us_L_draws : usB (fun f sp => (f, sp) ∈ LF_L_draws) (fun x d => (x, d) ∈ LC_L_draws) ir_L_draws := by
  simp [usB, usS, us, usT, usN, usI, usL, usO, usC, ir_L_draws, LF_L_draws, LC_L_draws]
def LF_is_from : List (Str × DSp) := [("is_number", sp_is_number)]
def LC_is_from : List (Str × D) := []
theorem us_is_from : usB (fun f sp => (f, sp) ∈ LF_is_from) (fun x d => (x, d) ∈ LC_is_from) ir_is_from := by
  simp [usB, usS, us, usT, usN, usI, usL, usO, usC, ir_is_from, LF_is_from, LC_is_from]
def LF_are_prices : List (Str × DSp) := [("is_number", sp_is_number)]
def LC_are_prices : List (Str × D) := []
theorem us_are_prices : usB (fun f sp => (f, sp) ∈ LF_are_prices) (fun x d => (x, d) ∈ LC_are_prices) ir_are_prices := by
  simp [usB, usS, us, usT, usN, usI, usL, usO, usC, ir_are_prices, LF_are_prices, LC_are_prices]
def LF_are_covered : List (Str × DSp) := [("ends_of", sp_ends_of), ("worth_in", sp_worth_in)]
def LC_are_covered : List (Str × D) := []
theorem us_are_covered : usB (fun f sp => (f, sp) ∈ LF_are_covered) (fun x d => (x, d) ∈ LC_are_covered) ir_are_covered := by
  simp [usB, usS, us, usT, usN, usI, usL, usO, usC, ir_are_covered, LF_are_covered, LC_are_covered]
def LF_L_is_pairing : List (Str × DSp) := [("_law_whole", sp_L_whole)]
def LC_L_is_pairing : List (Str × D) := []
theorem us_L_is_pairing : usB (fun f sp => (f, sp) ∈ LF_L_is_pairing) (fun x d => (x, d) ∈ LC_L_is_pairing) ir_L_is_pairing := by
  simp [usB, usS, us, usT, usN, usI, usL, usO, usC, ir_L_is_pairing, LF_L_is_pairing, LC_L_is_pairing]
def LF_L_bent_prices : List (Str × DSp) := [("_law_next", sp_L_next)]
def LC_L_bent_prices : List (Str × D) := []
theorem us_L_bent_prices : usB (fun f sp => (f, sp) ∈ LF_L_bent_prices) (fun x d => (x, d) ∈ LC_L_bent_prices) ir_L_bent_prices := by
  simp [usB, usS, us, usT, usN, usI, usL, usO, usC, ir_L_bent_prices, LF_L_bent_prices, LC_L_bent_prices]
def LF_L_bent_pairing : List (Str × DSp) := [("_law_next", sp_L_next)]
def LC_L_bent_pairing : List (Str × D) := []
theorem us_L_bent_pairing : usB (fun f sp => (f, sp) ∈ LF_L_bent_pairing) (fun x d => (x, d) ∈ LC_L_bent_pairing) ir_L_bent_pairing := by
  simp [usB, usS, us, usT, usN, usI, usL, usO, usC, ir_L_bent_pairing, LF_L_bent_pairing, LC_L_bent_pairing]
def LF_L_chance : List (Str × DSp) := [("_law_low", sp_L_low)]
def LC_L_chance : List (Str × D) := []
theorem us_L_chance : usB (fun f sp => (f, sp) ∈ LF_L_chance) (fun x d => (x, d) ∈ LC_L_chance) ir_L_chance := by
  simp [usB, usS, us, usT, usN, usI, usL, usO, usC, ir_L_chance, LF_L_chance, LC_L_chance]
def LF_is_rising : List (Str × DSp) := [("is_from", sp_is_from)]
def LC_is_rising : List (Str × D) := []
theorem us_is_rising : usB (fun f sp => (f, sp) ∈ LF_is_rising) (fun x d => (x, d) ∈ LC_is_rising) ir_is_rising := by
  simp [usB, usS, us, usT, usN, usI, usL, usO, usC, ir_is_rising, LF_is_rising, LC_is_rising]
def LF_L_is_heaviest : List (Str × DSp) := [("_law_is_pairing", sp_L_is_pairing), ("_law_whole", sp_L_whole)]
def LC_L_is_heaviest : List (Str × D) := []
theorem us_L_is_heaviest : usB (fun f sp => (f, sp) ∈ LF_L_is_heaviest) (fun x d => (x, d) ∈ LC_L_is_heaviest) ir_L_is_heaviest := by
  simp [usB, usS, us, usT, usN, usI, usL, usO, usC, ir_L_is_heaviest, LF_L_is_heaviest, LC_L_is_heaviest]
def LF_is_pairing : List (Str × DSp) := [("is_rising", sp_is_rising), ("ends_of", sp_ends_of)]
def LC_is_pairing : List (Str × D) := []
theorem us_is_pairing : usB (fun f sp => (f, sp) ∈ LF_is_pairing) (fun x d => (x, d) ∈ LC_is_pairing) ir_is_pairing := by
  simp [usB, usS, us, usT, usN, usI, usL, usO, usC, ir_is_pairing, LF_is_pairing, LC_is_pairing]
def LF_L_made : List (Str × DSp) := [("_law_next", sp_L_next), ("_law_chance", sp_L_chance)]
def LC_L_made : List (Str × D) := []
theorem us_L_made : usB (fun f sp => (f, sp) ∈ LF_L_made) (fun x d => (x, d) ∈ LC_L_made) ir_L_made := by
  simp [usB, usS, us, usT, usN, usI, usL, usO, usC, ir_L_made, LF_L_made, LC_L_made]
def LF_heaviest_holds : List (Str × DSp) := [("is_pairing", sp_is_pairing), ("are_prices", sp_are_prices), ("are_covered", sp_are_covered), ("worth_in", sp_worth_in)]
def LC_heaviest_holds : List (Str × D) := []
theorem us_heaviest_holds : usB (fun f sp => (f, sp) ∈ LF_heaviest_holds) (fun x d => (x, d) ∈ LC_heaviest_holds) ir_heaviest_holds := by
  simp [usB, usS, us, usT, usN, usI, usL, usO, usC, ir_heaviest_holds, LF_heaviest_holds, LC_heaviest_holds]
def LF_law : List (Str × DSp) := [("_law_draws", sp_L_draws), ("_law_made", sp_L_made), ("_law_odd", sp_L_odd), ("_law_next", sp_L_next), ("_law_bent_prices", sp_L_bent_prices), ("_law_bent_pairing", sp_L_bent_pairing), ("_law_says", sp_L_says), ("heaviest_holds", sp_heaviest_holds), ("_law_is_heaviest", sp_L_is_heaviest)]
def LC_law : List (Str × D) := []
theorem us_law : usB (fun f sp => (f, sp) ∈ LF_law) (fun x d => (x, d) ∈ LC_law) ir_law := by
  simp [usB, usS, us, usT, usN, usI, usL, usO, usC, ir_law, LF_law, LC_law]
theorem all_mk {l : PySem.W.OpenLaw} {w : World} {K : PySem.W.Frag} {h : Heap} {mg : Str → Option Value} {fa f0 f1 f2 f3 f4 f5 f6 f7 f8 f9 f10 f11 f12 f13 f14 f15 f16 f17 f18 f19 f20 f21 f22 f23 : Addr} (X : K.In h) (G : h.Ns mainGlobals mg) (hfa : mg "law" = some (.ref fa))
    {od0 an0 : Option Addr} {sl0 : Array (Option Value)} {oc0 kV0 dc0 pm0 cd0 ct0 : Value}
    (a0 : PySem.W.nsIn K mainGlobals "_law_mixed" = some (some (.ref f0)))
    (l0 : K.lookup f0 = some ⟨oc0, od0, .func (PySem.W.fnOf "_law_mixed" "_law_mixed" (defArgs (topS 14)) (defBody (topS 14)) (defScope (topS 14)) .none kV0 dc0 pm0 an0 cd0 ct0), sl0⟩)
    (c0 : PySem.W.codeIn K cd0 "_law_mixed" = true) (k0 : PySem.W.keepIn K (.ref f0) = true)
    {od1 an1 : Option Addr} {sl1 : Array (Option Value)} {oc1 kV1 dc1 pm1 cd1 ct1 : Value}
    (a1 : PySem.W.nsIn K mainGlobals "_law_next" = some (some (.ref f1)))
    (l1 : K.lookup f1 = some ⟨oc1, od1, .func (PySem.W.fnOf "_law_next" "_law_next" (defArgs (topS 16)) (defBody (topS 16)) (defScope (topS 16)) .none kV1 dc1 pm1 an1 cd1 ct1), sl1⟩)
    (c1 : PySem.W.codeIn K cd1 "_law_next" = true) (k1 : PySem.W.keepIn K (.ref f1) = true)
    {od2 an2 : Option Addr} {sl2 : Array (Option Value)} {oc2 kV2 dc2 pm2 cd2 ct2 : Value}
    (a2 : PySem.W.nsIn K mainGlobals "_law_gcd" = some (some (.ref f2)))
    (l2 : K.lookup f2 = some ⟨oc2, od2, .func (PySem.W.fnOf "_law_gcd" "_law_gcd" (defArgs (topS 17)) (defBody (topS 17)) (defScope (topS 17)) .none kV2 dc2 pm2 an2 cd2 ct2), sl2⟩)
    (c2 : PySem.W.codeIn K cd2 "_law_gcd" = true) (k2 : PySem.W.keepIn K (.ref f2) = true)
    {od3 an3 : Option Addr} {sl3 : Array (Option Value)} {oc3 kV3 dc3 pm3 cd3 ct3 : Value}
    (a3 : PySem.W.nsIn K mainGlobals "is_number" = some (some (.ref f3)))
    (l3 : K.lookup f3 = some ⟨oc3, od3, .func (PySem.W.fnOf "is_number" "is_number" (defArgs (topS 1)) (defBody (topS 1)) (defScope (topS 1)) .none kV3 dc3 pm3 an3 cd3 ct3), sl3⟩)
    (c3 : PySem.W.codeIn K cd3 "is_number" = true) (k3 : PySem.W.keepIn K (.ref f3) = true)
    {od4 an4 : Option Addr} {sl4 : Array (Option Value)} {oc4 kV4 dc4 pm4 cd4 ct4 : Value}
    (a4 : PySem.W.nsIn K mainGlobals "ends_of" = some (some (.ref f4)))
    (l4 : K.lookup f4 = some ⟨oc4, od4, .func (PySem.W.fnOf "ends_of" "ends_of" (defArgs (topS 4)) (defBody (topS 4)) (defScope (topS 4)) .none kV4 dc4 pm4 an4 cd4 ct4), sl4⟩)
    (c4 : PySem.W.codeIn K cd4 "ends_of" = true) (k4 : PySem.W.keepIn K (.ref f4) = true)
    {od5 an5 : Option Addr} {sl5 : Array (Option Value)} {oc5 kV5 dc5 pm5 cd5 ct5 : Value}
    (a5 : PySem.W.nsIn K mainGlobals "_law_says" = some (some (.ref f5)))
    (l5 : K.lookup f5 = some ⟨oc5, od5, .func (PySem.W.fnOf "_law_says" "_law_says" (defArgs (topS 19)) (defBody (topS 19)) (defScope (topS 19)) .none kV5 dc5 pm5 an5 cd5 ct5), sl5⟩)
    (c5 : PySem.W.codeIn K cd5 "_law_says" = true) (k5 : PySem.W.keepIn K (.ref f5) = true)
    {od6 an6 : Option Addr} {sl6 : Array (Option Value)} {oc6 kV6 dc6 pm6 cd6 ct6 : Value}
    (a6 : PySem.W.nsIn K mainGlobals "_law_odd" = some (some (.ref f6)))
    (l6 : K.lookup f6 = some ⟨oc6, od6, .func (PySem.W.fnOf "_law_odd" "_law_odd" (defArgs (topS 21)) (defBody (topS 21)) (defScope (topS 21)) .none kV6 dc6 pm6 an6 cd6 ct6), sl6⟩)
    (c6 : PySem.W.codeIn K cd6 "_law_odd" = true) (k6 : PySem.W.keepIn K (.ref f6) = true)
    {od7 an7 : Option Addr} {sl7 : Array (Option Value)} {oc7 kV7 dc7 pm7 cd7 ct7 : Value}
    (a7 : PySem.W.nsIn K mainGlobals "worth_in" = some (some (.ref f7)))
    (l7 : K.lookup f7 = some ⟨oc7, od7, .func (PySem.W.fnOf "worth_in" "worth_in" (defArgs (topS 5)) (defBody (topS 5)) (defScope (topS 5)) .none kV7 dc7 pm7 an7 cd7 ct7), sl7⟩)
    (c7 : PySem.W.codeIn K cd7 "worth_in" = true) (k7 : PySem.W.keepIn K (.ref f7) = true)
    {od8 an8 : Option Addr} {sl8 : Array (Option Value)} {oc8 kV8 dc8 pm8 cd8 ct8 : Value}
    (a8 : PySem.W.nsIn K mainGlobals "_law_whole" = some (some (.ref f8)))
    (l8 : K.lookup f8 = some ⟨oc8, od8, .func (PySem.W.fnOf "_law_whole" "_law_whole" (defArgs (topS 22)) (defBody (topS 22)) (defScope (topS 22)) .none kV8 dc8 pm8 an8 cd8 ct8), sl8⟩)
    (c8 : PySem.W.codeIn K cd8 "_law_whole" = true) (k8 : PySem.W.keepIn K (.ref f8) = true)
    {od9 an9 : Option Addr} {sl9 : Array (Option Value)} {oc9 kV9 dc9 pm9 cd9 ct9 : Value}
    (a9 : PySem.W.nsIn K mainGlobals "_law_low" = some (some (.ref f9)))
    (l9 : K.lookup f9 = some ⟨oc9, od9, .func (PySem.W.fnOf "_law_low" "_law_low" (defArgs (topS 18)) (defBody (topS 18)) (defScope (topS 18)) .none kV9 dc9 pm9 an9 cd9 ct9), sl9⟩)
    (c9 : PySem.W.codeIn K cd9 "_law_low" = true) (k9 : PySem.W.keepIn K (.ref f9) = true)
    {od10 an10 : Option Addr} {sl10 : Array (Option Value)} {oc10 kV10 dc10 pm10 cd10 ct10 : Value}
    (a10 : PySem.W.nsIn K mainGlobals "_law_draws" = some (some (.ref f10)))
    (l10 : K.lookup f10 = some ⟨oc10, od10, .func (PySem.W.fnOf "_law_draws" "_law_draws" (defArgs (topS 15)) (defBody (topS 15)) (defScope (topS 15)) .none kV10 dc10 pm10 an10 cd10 ct10), sl10⟩)
    (c10 : PySem.W.codeIn K cd10 "_law_draws" = true) (k10 : PySem.W.keepIn K (.ref f10) = true)
    {od11 an11 : Option Addr} {sl11 : Array (Option Value)} {oc11 kV11 dc11 pm11 cd11 ct11 : Value}
    (a11 : PySem.W.nsIn K mainGlobals "is_from" = some (some (.ref f11)))
    (l11 : K.lookup f11 = some ⟨oc11, od11, .func (PySem.W.fnOf "is_from" "is_from" (defArgs (topS 2)) (defBody (topS 2)) (defScope (topS 2)) .none kV11 dc11 pm11 an11 cd11 ct11), sl11⟩)
    (c11 : PySem.W.codeIn K cd11 "is_from" = true) (k11 : PySem.W.keepIn K (.ref f11) = true)
    {od12 an12 : Option Addr} {sl12 : Array (Option Value)} {oc12 kV12 dc12 pm12 cd12 ct12 : Value}
    (a12 : PySem.W.nsIn K mainGlobals "are_prices" = some (some (.ref f12)))
    (l12 : K.lookup f12 = some ⟨oc12, od12, .func (PySem.W.fnOf "are_prices" "are_prices" (defArgs (topS 10)) (defBody (topS 10)) (defScope (topS 10)) .none kV12 dc12 pm12 an12 cd12 ct12), sl12⟩)
    (c12 : PySem.W.codeIn K cd12 "are_prices" = true) (k12 : PySem.W.keepIn K (.ref f12) = true)
    {od13 an13 : Option Addr} {sl13 : Array (Option Value)} {oc13 kV13 dc13 pm13 cd13 ct13 : Value}
    (a13 : PySem.W.nsIn K mainGlobals "are_covered" = some (some (.ref f13)))
    (l13 : K.lookup f13 = some ⟨oc13, od13, .func (PySem.W.fnOf "are_covered" "are_covered" (defArgs (topS 11)) (defBody (topS 11)) (defScope (topS 11)) .none kV13 dc13 pm13 an13 cd13 ct13), sl13⟩)
    (c13 : PySem.W.codeIn K cd13 "are_covered" = true) (k13 : PySem.W.keepIn K (.ref f13) = true)
    {od14 an14 : Option Addr} {sl14 : Array (Option Value)} {oc14 kV14 dc14 pm14 cd14 ct14 : Value}
    (a14 : PySem.W.nsIn K mainGlobals "_law_is_pairing" = some (some (.ref f14)))
    (l14 : K.lookup f14 = some ⟨oc14, od14, .func (PySem.W.fnOf "_law_is_pairing" "_law_is_pairing" (defArgs (topS 23)) (defBody (topS 23)) (defScope (topS 23)) .none kV14 dc14 pm14 an14 cd14 ct14), sl14⟩)
    (c14 : PySem.W.codeIn K cd14 "_law_is_pairing" = true) (k14 : PySem.W.keepIn K (.ref f14) = true)
    {od15 an15 : Option Addr} {sl15 : Array (Option Value)} {oc15 kV15 dc15 pm15 cd15 ct15 : Value}
    (a15 : PySem.W.nsIn K mainGlobals "_law_bent_prices" = some (some (.ref f15)))
    (l15 : K.lookup f15 = some ⟨oc15, od15, .func (PySem.W.fnOf "_law_bent_prices" "_law_bent_prices" (defArgs (topS 26)) (defBody (topS 26)) (defScope (topS 26)) .none kV15 dc15 pm15 an15 cd15 ct15), sl15⟩)
    (c15 : PySem.W.codeIn K cd15 "_law_bent_prices" = true) (k15 : PySem.W.keepIn K (.ref f15) = true)
    {od16 an16 : Option Addr} {sl16 : Array (Option Value)} {oc16 kV16 dc16 pm16 cd16 ct16 : Value}
    (a16 : PySem.W.nsIn K mainGlobals "_law_bent_pairing" = some (some (.ref f16)))
    (l16 : K.lookup f16 = some ⟨oc16, od16, .func (PySem.W.fnOf "_law_bent_pairing" "_law_bent_pairing" (defArgs (topS 27)) (defBody (topS 27)) (defScope (topS 27)) .none kV16 dc16 pm16 an16 cd16 ct16), sl16⟩)
    (c16 : PySem.W.codeIn K cd16 "_law_bent_pairing" = true) (k16 : PySem.W.keepIn K (.ref f16) = true)
    {od17 an17 : Option Addr} {sl17 : Array (Option Value)} {oc17 kV17 dc17 pm17 cd17 ct17 : Value}
    (a17 : PySem.W.nsIn K mainGlobals "_law_chance" = some (some (.ref f17)))
    (l17 : K.lookup f17 = some ⟨oc17, od17, .func (PySem.W.fnOf "_law_chance" "_law_chance" (defArgs (topS 20)) (defBody (topS 20)) (defScope (topS 20)) .none kV17 dc17 pm17 an17 cd17 ct17), sl17⟩)
    (c17 : PySem.W.codeIn K cd17 "_law_chance" = true) (k17 : PySem.W.keepIn K (.ref f17) = true)
    {od18 an18 : Option Addr} {sl18 : Array (Option Value)} {oc18 kV18 dc18 pm18 cd18 ct18 : Value}
    (a18 : PySem.W.nsIn K mainGlobals "is_rising" = some (some (.ref f18)))
    (l18 : K.lookup f18 = some ⟨oc18, od18, .func (PySem.W.fnOf "is_rising" "is_rising" (defArgs (topS 6)) (defBody (topS 6)) (defScope (topS 6)) .none kV18 dc18 pm18 an18 cd18 ct18), sl18⟩)
    (c18 : PySem.W.codeIn K cd18 "is_rising" = true) (k18 : PySem.W.keepIn K (.ref f18) = true)
    {od19 an19 : Option Addr} {sl19 : Array (Option Value)} {oc19 kV19 dc19 pm19 cd19 ct19 : Value}
    (a19 : PySem.W.nsIn K mainGlobals "_law_is_heaviest" = some (some (.ref f19)))
    (l19 : K.lookup f19 = some ⟨oc19, od19, .func (PySem.W.fnOf "_law_is_heaviest" "_law_is_heaviest" (defArgs (topS 24)) (defBody (topS 24)) (defScope (topS 24)) .none kV19 dc19 pm19 an19 cd19 ct19), sl19⟩)
    (c19 : PySem.W.codeIn K cd19 "_law_is_heaviest" = true) (k19 : PySem.W.keepIn K (.ref f19) = true)
    {od20 an20 : Option Addr} {sl20 : Array (Option Value)} {oc20 kV20 dc20 pm20 cd20 ct20 : Value}
    (a20 : PySem.W.nsIn K mainGlobals "is_pairing" = some (some (.ref f20)))
    (l20 : K.lookup f20 = some ⟨oc20, od20, .func (PySem.W.fnOf "is_pairing" "is_pairing" (defArgs (topS 8)) (defBody (topS 8)) (defScope (topS 8)) .none kV20 dc20 pm20 an20 cd20 ct20), sl20⟩)
    (c20 : PySem.W.codeIn K cd20 "is_pairing" = true) (k20 : PySem.W.keepIn K (.ref f20) = true)
    {od21 an21 : Option Addr} {sl21 : Array (Option Value)} {oc21 kV21 dc21 pm21 cd21 ct21 : Value}
    (a21 : PySem.W.nsIn K mainGlobals "_law_made" = some (some (.ref f21)))
    (l21 : K.lookup f21 = some ⟨oc21, od21, .func (PySem.W.fnOf "_law_made" "_law_made" (defArgs (topS 25)) (defBody (topS 25)) (defScope (topS 25)) .none kV21 dc21 pm21 an21 cd21 ct21), sl21⟩)
    (c21 : PySem.W.codeIn K cd21 "_law_made" = true) (k21 : PySem.W.keepIn K (.ref f21) = true)
    {od22 an22 : Option Addr} {sl22 : Array (Option Value)} {oc22 kV22 dc22 pm22 cd22 ct22 : Value}
    (a22 : PySem.W.nsIn K mainGlobals "heaviest_holds" = some (some (.ref f22)))
    (l22 : K.lookup f22 = some ⟨oc22, od22, .func (PySem.W.fnOf "heaviest_holds" "heaviest_holds" (defArgs (topS 12)) (defBody (topS 12)) (defScope (topS 12)) .none kV22 dc22 pm22 an22 cd22 ct22), sl22⟩)
    (c22 : PySem.W.codeIn K cd22 "heaviest_holds" = true) (k22 : PySem.W.keepIn K (.ref f22) = true)
    {od23 an23 : Option Addr} {sl23 : Array (Option Value)} {oc23 kV23 dc23 pm23 cd23 ct23 : Value}
    (a23 : PySem.W.nsIn K mainGlobals "law" = some (some (.ref f23)))
    (l23 : K.lookup f23 = some ⟨oc23, od23, .func (PySem.W.fnOf "law" "law" (defArgs (topS 28)) (defBody (topS 28)) (defScope (topS 28)) .none kV23 dc23 pm23 an23 cd23 ct23), sl23⟩)
    (c23 : PySem.W.codeIn K cd23 "law" = true) (k23 : PySem.W.keepIn K (.ref f23) = true)
    (z_abs : PySem.W.nsIn K mainGlobals "abs" = some none)
    (z_isinstance : PySem.W.nsIn K mainGlobals "isinstance" = some none)
    (z_bool : PySem.W.nsIn K mainGlobals "bool" = some none)
    (z_int : PySem.W.nsIn K mainGlobals "int" = some none)
    (z_len : PySem.W.nsIn K mainGlobals "len" = some none)
    (z_range : PySem.W.nsIn K mainGlobals "range" = some none)
    (z_min : PySem.W.nsIn K mainGlobals "min" = some none)
    (z_tuple : PySem.W.nsIn K mainGlobals "tuple" = some none)
    (z_all : PySem.W.nsIn K mainGlobals "all" = some none)
    (z_list : PySem.W.nsIn K mainGlobals "list" = some none)
    (z_str : PySem.W.nsIn K mainGlobals "str" = some none)
    (z_zip : PySem.W.nsIn K mainGlobals "zip" = some none)
    (z_sum : PySem.W.nsIn K mainGlobals "sum" = some none)
    (z_set : PySem.W.nsIn K mainGlobals "set" = some none)
    (z_max : PySem.W.nsIn K mainGlobals "max" = some none)
    : ∃ fd : FuncData, (∀ (s : Shared) (v : Value), BindsTo s fd ⟨[v], []⟩ [("_law_script", v)]) ∧ ∀ base : Heap, K.In base → base.Ns mainGlobals mg → FnOk l.prog w K mg base CX0 6 fa fd ["_law_script"] (lawSp K) := by
  have e := hfa.symm.trans (PySem.W.mg_of X G a23)
  cases e
  have F0 := fun_mk (st := topS 14) l0 c0 k0
  have b0 := F0.binds (ps := ["_law_cell", "_law_k"]) fun _ _ _ _ _ _ us hl => match us, hl with | [_, _], _ => rfl
  have m0 := PySem.W.mg_of X G a0
  have F1 := fun_mk (st := topS 16) l1 c1 k1
  have b1 := F1.binds (ps := ["_law_drawn"]) fun _ _ _ _ _ _ us hl => match us, hl with | [_], _ => rfl
  have m1 := PySem.W.mg_of X G a1
  have F2 := fun_mk (st := topS 17) l2 c2 k2
  have b2 := F2.binds (ps := ["_law_one", "_law_other"]) fun _ _ _ _ _ _ us hl => match us, hl with | [_, _], _ => rfl
  have m2 := PySem.W.mg_of X G a2
  have F3 := fun_mk (st := topS 1) l3 c3 k3
  have b3 := F3.binds (ps := ["thing"]) fun _ _ _ _ _ _ us hl => match us, hl with | [_], _ => rfl
  have m3 := PySem.W.mg_of X G a3
  have F4 := fun_mk (st := topS 4) l4 c4 k4
  have b4 := F4.binds (ps := ["web", "tie"]) fun _ _ _ _ _ _ us hl => match us, hl with | [_, _], _ => rfl
  have m4 := PySem.W.mg_of X G a4
  have F5 := fun_mk (st := topS 19) l5 c5 k5
  have b5 := F5.binds (ps := ["_law_found", "_law_due"]) fun _ _ _ _ _ _ us hl => match us, hl with | [_, _], _ => rfl
  have m5 := PySem.W.mg_of X G a5
  have F6 := fun_mk (st := topS 21) l6 c6 k6
  have b6 := F6.binds (ps := ["_law_number"]) fun _ _ _ _ _ _ us hl => match us, hl with | [_], _ => rfl
  have m6 := PySem.W.mg_of X G a6
  have F7 := fun_mk (st := topS 5) l7 c7 k7
  have b7 := F7.binds (ps := ["web", "tie"]) fun _ _ _ _ _ _ us hl => match us, hl with | [_, _], _ => rfl
  have m7 := PySem.W.mg_of X G a7
  have F8 := fun_mk (st := topS 22) l8 c8 k8
  have b8 := F8.binds (ps := ["_law_thing"]) fun _ _ _ _ _ _ us hl => match us, hl with | [_], _ => rfl
  have m8 := PySem.W.mg_of X G a8
  have F9 := fun_mk (st := topS 18) l9 c9 k9
  have b9 := F9.binds (ps := ["_law_top", "_law_bottom"]) fun _ _ _ _ _ _ us hl => match us, hl with | [_, _], _ => rfl
  have m9 := PySem.W.mg_of X G a9
  have F10 := fun_mk (st := topS 15) l10 c10 k10
  have b10 := F10.binds (ps := ["_law_script"]) fun _ _ _ _ _ _ us hl => match us, hl with | [_], _ => rfl
  have m10 := PySem.W.mg_of X G a10
  have F11 := fun_mk (st := topS 2) l11 c11 k11
  have b11 := F11.binds (ps := ["thing", "low", "high"]) fun _ _ _ _ _ _ us hl => match us, hl with | [_, _, _], _ => rfl
  have m11 := PySem.W.mg_of X G a11
  have F12 := fun_mk (st := topS 10) l12 c12 k12
  have b12 := F12.binds (ps := ["web", "thing"]) fun _ _ _ _ _ _ us hl => match us, hl with | [_, _], _ => rfl
  have m12 := PySem.W.mg_of X G a12
  have F13 := fun_mk (st := topS 11) l13 c13 k13
  have b13 := F13.binds (ps := ["web", "prices"]) fun _ _ _ _ _ _ us hl => match us, hl with | [_, _], _ => rfl
  have m13 := PySem.W.mg_of X G a13
  have F14 := fun_mk (st := topS 23) l14 c14 k14
  have b14 := F14.binds (ps := ["_law_web", "_law_thing"]) fun _ _ _ _ _ _ us hl => match us, hl with | [_, _], _ => rfl
  have m14 := PySem.W.mg_of X G a14
  have F15 := fun_mk (st := topS 26) l15 c15 k15
  have b15 := F15.binds (ps := ["_law_numbers", "_law_prices"]) fun _ _ _ _ _ _ us hl => match us, hl with | [_, _], _ => rfl
  have m15 := PySem.W.mg_of X G a15
  have F16 := fun_mk (st := topS 27) l16 c16 k16
  have b16 := F16.binds (ps := ["_law_numbers", "_law_web", "_law_pairing"]) fun _ _ _ _ _ _ us hl => match us, hl with | [_, _, _], _ => rfl
  have m16 := PySem.W.mg_of X G a16
  have F17 := fun_mk (st := topS 20) l17 c17 k17
  have b17 := F17.binds (ps := ["_law_number", "_law_kind"]) fun _ _ _ _ _ _ us hl => match us, hl with | [_, _], _ => rfl
  have m17 := PySem.W.mg_of X G a17
  have F18 := fun_mk (st := topS 6) l18 c18 k18
  have b18 := F18.binds (ps := ["thing", "most"]) fun _ _ _ _ _ _ us hl => match us, hl with | [_, _], _ => rfl
  have m18 := PySem.W.mg_of X G a18
  have F19 := fun_mk (st := topS 24) l19 c19 k19
  have b19 := F19.binds (ps := ["_law_web", "_law_thing"]) fun _ _ _ _ _ _ us hl => match us, hl with | [_, _], _ => rfl
  have m19 := PySem.W.mg_of X G a19
  have F20 := fun_mk (st := topS 8) l20 c20 k20
  have b20 := F20.binds (ps := ["web", "thing"]) fun _ _ _ _ _ _ us hl => match us, hl with | [_, _], _ => rfl
  have m20 := PySem.W.mg_of X G a20
  have F21 := fun_mk (st := topS 25) l21 c21 k21
  have b21 := F21.binds (ps := ["_law_numbers"]) fun _ _ _ _ _ _ us hl => match us, hl with | [_], _ => rfl
  have m21 := PySem.W.mg_of X G a21
  have F22 := fun_mk (st := topS 12) l22 c22 k22
  have b22 := F22.binds (ps := ["web", "thing"]) fun _ _ _ _ _ _ us hl => match us, hl with | [_, _], _ => rfl
  have m22 := PySem.W.mg_of X G a22
  have F23 := fun_mk (st := topS 28) l23 c23 k23
  have b23 := F23.binds (ps := ["_law_script"]) fun _ _ _ _ _ _ us hl => match us, hl with | [_], _ => rfl
  have m23 := PySem.W.mg_of X G a23
  have y_abs := PySem.W.mg_none_of X G z_abs
  have y_isinstance := PySem.W.mg_none_of X G z_isinstance
  have y_bool := PySem.W.mg_none_of X G z_bool
  have y_int := PySem.W.mg_none_of X G z_int
  have y_len := PySem.W.mg_none_of X G z_len
  have y_range := PySem.W.mg_none_of X G z_range
  have y_min := PySem.W.mg_none_of X G z_min
  have y_tuple := PySem.W.mg_none_of X G z_tuple
  have y_all := PySem.W.mg_none_of X G z_all
  have y_list := PySem.W.mg_none_of X G z_list
  have y_str := PySem.W.mg_none_of X G z_str
  have y_zip := PySem.W.mg_none_of X G z_zip
  have y_sum := PySem.W.mg_none_of X G z_sum
  have y_set := PySem.W.mg_none_of X G z_set
  have y_max := PySem.W.mg_none_of X G z_max
  have T : ∀ base : Heap, FnAt l.prog w K mg base 1 "_law_mixed" sp_L_mixed ∧ FnAt l.prog w K mg base 1 "_law_next" sp_L_next ∧ FnAt l.prog w K mg base 1 "_law_gcd" sp_L_gcd ∧ FnAt l.prog w K mg base 1 "is_number" sp_is_number ∧ FnAt l.prog w K mg base 1 "ends_of" sp_ends_of ∧ FnAt l.prog w K mg base 1 "_law_says" sp_L_says ∧ FnAt l.prog w K mg base 1 "_law_odd" sp_L_odd ∧ FnAt l.prog w K mg base 1 "worth_in" sp_worth_in ∧ FnAt l.prog w K mg base 1 "_law_whole" sp_L_whole ∧ FnAt l.prog w K mg base 2 "_law_low" sp_L_low ∧ FnAt l.prog w K mg base 2 "_law_draws" sp_L_draws ∧ FnAt l.prog w K mg base 2 "is_from" sp_is_from ∧ FnAt l.prog w K mg base 2 "are_prices" sp_are_prices ∧ FnAt l.prog w K mg base 2 "are_covered" sp_are_covered ∧ FnAt l.prog w K mg base 2 "_law_is_pairing" sp_L_is_pairing ∧ FnAt l.prog w K mg base 2 "_law_bent_prices" sp_L_bent_prices ∧ FnAt l.prog w K mg base 2 "_law_bent_pairing" sp_L_bent_pairing ∧ FnAt l.prog w K mg base 3 "_law_chance" sp_L_chance ∧ FnAt l.prog w K mg base 3 "is_rising" sp_is_rising ∧ FnAt l.prog w K mg base 3 "_law_is_heaviest" sp_L_is_heaviest ∧ FnAt l.prog w K mg base 4 "is_pairing" sp_is_pairing ∧ FnAt l.prog w K mg base 4 "_law_made" sp_L_made ∧ FnAt l.prog w K mg base 5 "heaviest_holds" sp_heaviest_holds ∧ FnAt l.prog w K mg base 6 "law" sp_law := by
    intro base
    have T0 : FnAt l.prog w K mg base 1 "_law_mixed" sp_L_mixed := ⟨_, _, _, def_ok (k := 0) _ _ F0 ck_L_mixed us_L_mixed bi_nil fn_nil con_nil ks_L_mixed, m0, k0, b0⟩
    have T1 : FnAt l.prog w K mg base 1 "_law_next" sp_L_next := ⟨_, _, _, def_ok (k := 0) _ _ F1 ck_L_next us_L_next bi_nil fn_nil con_nil ks_L_next, m1, k1, b1⟩
    have T2 : FnAt l.prog w K mg base 1 "_law_gcd" sp_L_gcd := ⟨_, _, _, def_ok (k := 0) _ _ F2 ck_L_gcd us_L_gcd (bi_cons y_abs bi_nil) fn_nil con_nil ks_L_gcd, m2, k2, b2⟩
    have T3 : FnAt l.prog w K mg base 1 "is_number" sp_is_number := ⟨_, _, _, def_ok (k := 0) _ _ F3 ck_is_number us_is_number (bi_cons y_isinstance (bi_cons y_bool (bi_cons y_int bi_nil))) fn_nil con_nil ks_is_number, m3, k3, b3⟩
    have T4 : FnAt l.prog w K mg base 1 "ends_of" sp_ends_of := ⟨_, _, _, def_ok (k := 0) _ _ F4 ck_ends_of us_ends_of bi_nil fn_nil con_nil ks_ends_of, m4, k4, b4⟩
    have T5 : FnAt l.prog w K mg base 1 "_law_says" sp_L_says := ⟨_, _, _, def_ok (k := 0) _ _ F5 ck_L_says us_L_says bi_nil fn_nil con_nil ks_L_says, m5, k5, b5⟩
    have T6 : FnAt l.prog w K mg base 1 "_law_odd" sp_L_odd := ⟨_, _, _, def_ok (k := 0) _ _ F6 ck_L_odd us_L_odd (bi_cons y_len bi_nil) fn_nil con_nil ks_L_odd, m6, k6, b6⟩
    have T7 : FnAt l.prog w K mg base 1 "worth_in" sp_worth_in := ⟨_, _, _, def_ok (k := 0) _ _ F7 ck_worth_in us_worth_in bi_nil fn_nil con_nil ks_worth_in, m7, k7, b7⟩
    have T8 : FnAt l.prog w K mg base 1 "_law_whole" sp_L_whole := ⟨_, _, _, def_ok (k := 0) _ _ F8 ck_L_whole us_L_whole (bi_cons y_isinstance (bi_cons y_bool (bi_cons y_int bi_nil))) fn_nil con_nil ks_L_whole, m8, k8, b8⟩
    have T9 : FnAt l.prog w K mg base 2 "_law_low" sp_L_low := ⟨_, _, _, def_ok (k := 1) _ _ F9 ck_L_low us_L_low bi_nil (fn_cons (fn_mono T2 (by decide)) fn_nil) con_nil ks_L_low, m9, k9, b9⟩
    have T10 : FnAt l.prog w K mg base 2 "_law_draws" sp_L_draws := ⟨_, _, _, def_ok (k := 1) _ _ F10 ck_L_draws us_L_draws (bi_cons y_range (bi_cons y_min (bi_cons y_len (bi_cons y_abs bi_nil)))) (fn_cons (fn_mono T0 (by decide)) fn_nil) con_nil ks_L_draws, m10, k10, b10⟩
    have T11 : FnAt l.prog w K mg base 2 "is_from" sp_is_from := ⟨_, _, _, def_ok (k := 1) _ _ F11 ck_is_from us_is_from bi_nil (fn_cons (fn_mono T3 (by decide)) fn_nil) con_nil ks_is_from, m11, k11, b11⟩
    have T12 : FnAt l.prog w K mg base 2 "are_prices" sp_are_prices := ⟨_, _, _, def_ok (k := 1) _ _ F12 ck_are_prices us_are_prices (bi_cons y_isinstance (bi_cons y_tuple (bi_cons y_len (bi_cons y_all bi_nil)))) (fn_cons (fn_mono T3 (by decide)) fn_nil) con_nil ks_are_prices, m12, k12, b12⟩
    have T13 : FnAt l.prog w K mg base 2 "are_covered" sp_are_covered := ⟨_, _, _, def_ok (k := 1) _ _ F13 ck_are_covered us_are_covered (bi_cons y_range (bi_cons y_len bi_nil)) (fn_cons (fn_mono T4 (by decide)) (fn_cons (fn_mono T7 (by decide)) fn_nil)) con_nil ks_are_covered, m13, k13, b13⟩
    have T14 : FnAt l.prog w K mg base 2 "_law_is_pairing" sp_L_is_pairing := ⟨_, _, _, def_ok (k := 1) _ _ F14 ck_L_is_pairing us_L_is_pairing (bi_cons y_isinstance (bi_cons y_tuple (bi_cons y_len bi_nil))) (fn_cons (fn_mono T8 (by decide)) fn_nil) con_nil ks_L_is_pairing, m14, k14, b14⟩
    have T15 : FnAt l.prog w K mg base 2 "_law_bent_prices" sp_L_bent_prices := ⟨_, _, _, def_ok (k := 1) _ _ F15 ck_L_bent_prices us_L_bent_prices (bi_cons y_len (bi_cons y_list (bi_cons y_str (bi_cons y_tuple bi_nil)))) (fn_cons (fn_mono T1 (by decide)) fn_nil) con_nil ks_L_bent_prices, m15, k15, b15⟩
    have T16 : FnAt l.prog w K mg base 2 "_law_bent_pairing" sp_L_bent_pairing := ⟨_, _, _, def_ok (k := 1) _ _ F16 ck_L_bent_pairing us_L_bent_pairing (bi_cons y_len (bi_cons y_list bi_nil)) (fn_cons (fn_mono T1 (by decide)) fn_nil) con_nil ks_L_bent_pairing, m16, k16, b16⟩
    have T17 : FnAt l.prog w K mg base 3 "_law_chance" sp_L_chance := ⟨_, _, _, def_ok (k := 2) _ _ F17 ck_L_chance us_L_chance bi_nil (fn_cons (fn_mono T9 (by decide)) fn_nil) con_nil ks_L_chance, m17, k17, b17⟩
    have T18 : FnAt l.prog w K mg base 3 "is_rising" sp_is_rising := ⟨_, _, _, def_ok (k := 2) _ _ F18 ck_is_rising us_is_rising (bi_cons y_isinstance (bi_cons y_tuple (bi_cons y_all (bi_cons y_zip bi_nil)))) (fn_cons (fn_mono T11 (by decide)) fn_nil) con_nil ks_is_rising, m18, k18, b18⟩
    have T19 : FnAt l.prog w K mg base 3 "_law_is_heaviest" sp_L_is_heaviest := ⟨_, _, _, def_ok (k := 2) _ _ F19 ck_L_is_heaviest us_L_is_heaviest (bi_cons y_isinstance (bi_cons y_tuple (bi_cons y_len (bi_cons y_sum bi_nil)))) (fn_cons (fn_mono T14 (by decide)) (fn_cons (fn_mono T8 (by decide)) fn_nil)) con_nil ks_L_is_heaviest, m19, k19, b19⟩
    have T20 : FnAt l.prog w K mg base 4 "is_pairing" sp_is_pairing := ⟨_, _, _, def_ok (k := 3) _ _ F20 ck_is_pairing us_is_pairing (bi_cons y_len (bi_cons y_set bi_nil)) (fn_cons (fn_mono T18 (by decide)) (fn_cons (fn_mono T4 (by decide)) fn_nil)) con_nil ks_is_pairing, m20, k20, b20⟩
    have T21 : FnAt l.prog w K mg base 4 "_law_made" sp_L_made := ⟨_, _, _, def_ok (k := 3) _ _ F21 ck_L_made us_L_made (bi_cons y_range (bi_cons y_list (bi_cons y_len (bi_cons y_min (bi_cons y_max (bi_cons y_tuple bi_nil)))))) (fn_cons (fn_mono T1 (by decide)) (fn_cons (fn_mono T17 (by decide)) fn_nil)) con_nil ks_L_made, m21, k21, b21⟩
    have T22 : FnAt l.prog w K mg base 5 "heaviest_holds" sp_heaviest_holds := ⟨_, _, _, def_ok (k := 4) _ _ F22 ck_heaviest_holds us_heaviest_holds (bi_cons y_isinstance (bi_cons y_tuple (bi_cons y_len (bi_cons y_sum bi_nil)))) (fn_cons (fn_mono T20 (by decide)) (fn_cons (fn_mono T12 (by decide)) (fn_cons (fn_mono T13 (by decide)) (fn_cons (fn_mono T7 (by decide)) fn_nil)))) con_nil ks_heaviest_holds, m22, k22, b22⟩
    have T23 : FnAt l.prog w K mg base 6 "law" sp_law := ⟨_, _, _, def_ok (k := 5) _ _ F23 ck_law us_law (bi_cons y_range (bi_cons y_min (bi_cons y_len (bi_cons y_list bi_nil)))) (fn_cons (fn_mono T10 (by decide)) (fn_cons (fn_mono T21 (by decide)) (fn_cons (fn_mono T6 (by decide)) (fn_cons (fn_mono T1 (by decide)) (fn_cons (fn_mono T15 (by decide)) (fn_cons (fn_mono T16 (by decide)) (fn_cons (fn_mono T5 (by decide)) (fn_cons (fn_mono T22 (by decide)) (fn_cons (fn_mono T19 (by decide)) fn_nil))))))))) con_nil ks_law, m23, k23, b23⟩
    exact ⟨T0, T1, T2, T3, T4, T5, T6, T7, T8, T9, T10, T11, T12, T13, T14, T15, T16, T17, T18, T19, T20, T21, T22, T23⟩
  refine ⟨PySem.W.fnOf "law" "law" (defArgs (topS 28)) (defBody (topS 28)) (defScope (topS 28)) .none kV23 dc23 pm23 an23 cd23 ct23, fun s v => .of_eq rfl, fun base _ _ => ?_⟩
  obtain ⟨T0, T1, T2, T3, T4, T5, T6, T7, T8, T9, T10, T11, T12, T13, T14, T15, T16, T17, T18, T19, T20, T21, T22, T23⟩ := T base
  exact (def_ok (k := 5) _ _ F23 ck_law us_law (bi_cons y_range (bi_cons y_min (bi_cons y_len (bi_cons y_list bi_nil)))) (fn_cons (fn_mono T10 (by decide)) (fn_cons (fn_mono T21 (by decide)) (fn_cons (fn_mono T6 (by decide)) (fn_cons (fn_mono T1 (by decide)) (fn_cons (fn_mono T15 (by decide)) (fn_cons (fn_mono T16 (by decide)) (fn_cons (fn_mono T5 (by decide)) (fn_cons (fn_mono T22 (by decide)) (fn_cons (fn_mono T19 (by decide)) fn_nil))))))))) con_nil ks_law).imp lawSp_ok
end AP
open PySem PySem.W PyProof.Rows
set_option maxRecDepth 100000 in
set_option maxHeartbeats 0 in
theorem PySem.Challenge.cw_askedpairs_k64_heaviest_of_anything_holds : PySem.Challenge.rw_askedpairs_k64_heaviest_of_anything.Holds := by
  w_on; o_law; k_head; (case hw => w_witness2)
  k_fill
  refine L2.walk_of (l := PySem.Challenge.rw_askedpairs_k64_heaviest_of_anything) (n := 63) (k := 6) (x := "_law_script") (CX := fun _ => L2.CX0) (sp := fun w => AP.lawSp _) rfl (by decide) rfl ⟨rfl, by decide, by decide⟩ (fun w h Y => PySem.W.kIn_of Y) ?F (fun _ _ a ns hl _ hS => AP.lawSp_in hl hS) (fun _ _ _ _ _ h => h)
  case F =>
    intro w mg fa h KX G hmg
    refine' AP.all_mk KX G hmg ?a0 ?l0 ?c0 ?k0 ?a1 ?l1 ?c1 ?k1 ?a2 ?l2 ?c2 ?k2 ?a3 ?l3 ?c3 ?k3 ?a4 ?l4 ?c4 ?k4 ?a5 ?l5 ?c5 ?k5 ?a6 ?l6 ?c6 ?k6 ?a7 ?l7 ?c7 ?k7 ?a8 ?l8 ?c8 ?k8 ?a9 ?l9 ?c9 ?k9 ?a10 ?l10 ?c10 ?k10 ?a11 ?l11 ?c11 ?k11 ?a12 ?l12 ?c12 ?k12 ?a13 ?l13 ?c13 ?k13 ?a14 ?l14 ?c14 ?k14 ?a15 ?l15 ?c15 ?k15 ?a16 ?l16 ?c16 ?k16 ?a17 ?l17 ?c17 ?k17 ?a18 ?l18 ?c18 ?k18 ?a19 ?l19 ?c19 ?k19 ?a20 ?l20 ?c20 ?k20 ?a21 ?l21 ?c21 ?k21 ?a22 ?l22 ?c22 ?k22 ?a23 ?l23 ?c23 ?k23 ?z_abs ?z_isinstance ?z_bool ?z_int ?z_len ?z_range ?z_min ?z_tuple ?z_all ?z_list ?z_str ?z_zip ?z_sum ?z_set ?z_max
    (case a0 => k_is); (case l0 => k_is); (case c0 => k_is); (case k0 => k_is); (case a1 => k_is); (case l1 => k_is); (case c1 => k_is); (case k1 => k_is); (case a2 => k_is); (case l2 => k_is); (case c2 => k_is); (case k2 => k_is); (case a3 => k_is); (case l3 => k_is); (case c3 => k_is); (case k3 => k_is); (case a4 => k_is); (case l4 => k_is); (case c4 => k_is); (case k4 => k_is); (case a5 => k_is); (case l5 => k_is); (case c5 => k_is); (case k5 => k_is); (case a6 => k_is); (case l6 => k_is); (case c6 => k_is); (case k6 => k_is); (case a7 => k_is); (case l7 => k_is); (case c7 => k_is); (case k7 => k_is); (case a8 => k_is); (case l8 => k_is); (case c8 => k_is); (case k8 => k_is); (case a9 => k_is); (case l9 => k_is); (case c9 => k_is); (case k9 => k_is); (case a10 => k_is); (case l10 => k_is); (case c10 => k_is); (case k10 => k_is); (case a11 => k_is); (case l11 => k_is); (case c11 => k_is); (case k11 => k_is); (case a12 => k_is); (case l12 => k_is); (case c12 => k_is); (case k12 => k_is); (case a13 => k_is); (case l13 => k_is); (case c13 => k_is); (case k13 => k_is); (case a14 => k_is); (case l14 => k_is); (case c14 => k_is); (case k14 => k_is); (case a15 => k_is); (case l15 => k_is); (case c15 => k_is); (case k15 => k_is); (case a16 => k_is); (case l16 => k_is); (case c16 => k_is); (case k16 => k_is); (case a17 => k_is); (case l17 => k_is); (case c17 => k_is); (case k17 => k_is); (case a18 => k_is); (case l18 => k_is); (case c18 => k_is); (case k18 => k_is); (case a19 => k_is); (case l19 => k_is); (case c19 => k_is); (case k19 => k_is); (case a20 => k_is); (case l20 => k_is); (case c20 => k_is); (case k20 => k_is); (case a21 => k_is); (case l21 => k_is); (case c21 => k_is); (case k21 => k_is); (case a22 => k_is); (case l22 => k_is); (case c22 => k_is); (case k22 => k_is); (case a23 => k_is); (case l23 => k_is); (case c23 => k_is); (case k23 => k_is); (case z_abs => k_is); (case z_isinstance => k_is); (case z_bool => k_is); (case z_int => k_is); (case z_len => k_is); (case z_range => k_is); (case z_min => k_is); (case z_tuple => k_is); (case z_all => k_is); (case z_list => k_is); (case z_str => k_is); (case z_zip => k_is); (case z_sum => k_is); (case z_set => k_is); (case z_max => k_is)
