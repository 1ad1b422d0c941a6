import PyProof.Rows.All
import Wide.All
import OpenK.AllK
import Wide.FinOn
import HandS.ForMost
import HandS.Deep
import HandS.Conv
import HandS.TupAny
import HandS.Zip
import HandS.IsInst
import KE.DataCmp
import KE.GoesEnum
import KE.KDictPairs
import HandS.Defaults
import HandS.More
import KE.KDictKeyed
import KE.SortCalls
import KE.SortData
import KE.KDictSum
import KE.KStateDown
import HandS.Head0
import HandS.Head1
import HandS.Head2
import HandS.HeadEnd
import HandS.HeadHook1
import HandS.HeadHook2
import HandS.HeadHook3
import HandS.HeadHook4
import PySem.Challenge.RW_fewindexes_k03_whole_indexes
set_option Elab.async false
set_option linter.all false
set_option maxRecDepth 100000
set_option maxHeartbeats 4000000
/-! Rules of our own over the layer: tuples that are locked as the plain objects they are, + of lists that are read, in over tuples, >= of data, enumerate(tuple), dict(tuple of pairs). -/
namespace K3
open PySem PySem.Spec PyProof.Rows L2

/-! ### tuples, locked -/
/-- the plain object of a tuple -/
abbrev tupO (us : List Value) : Obj := { cls := .type "tuple", data := .seq us.toArray }
section
variable {X : Cx} {pins : List (Addr × Obj)} {σ : L2.St} {H : Hp} {s : Shared}
/-- a tuple just pushed is tracked, locked -/
theorem laidF {us : List Value} {xs : List V} {Q : VK} (I : Inv X pins σ H s) (r : Vals xs us) (hz : xs.length ≤ sizeLine) (q : ∀ p o, o.dict = none → H p = none → Q (.ref p) (upd H p (.frz o (.tup xs)))) (t : Nat) :
    EP X pins σ Q (.ref s.heap.objs.size) { s with heap := s.heap.push (tupO us), toks := t } := by
  have hf : H s.heap.objs.size = none := I.hok.fresh (Nat.le_refl _)
  have hg : (s.heap.push (tupO us)).get? s.heap.objs.size = some (tupO us) := Heap.get?_push_size _ rfl
  exact ⟨.ref s.heap.objs.size, _, I.laid (t' := t) (o := .frz (tupO us) (.tup xs)) (fun b u e => Heap.get?_push_of_some _ e) (Nat.le_refl _) ⟨hg, hz, us, r, _, hg, rfl, _, rfl⟩, rfl, q _ _ rfl hf⟩
end
section
variable {X : Cx} {es : List Expr} {t : TA} {pos : Pos}
def tTupF (t : TA) : TE := fun σ H Q => t σ H fun xs H1 => xs.length ≤ sizeLine ∧ ∀ p o, o.dict = none → H1 p = none → Q (.ref p) (upd H1 p (.frz o (.tup xs)))
theorem pe_tupF {x1} (h : PA X es t) : PE X (.Tuple es x1 pos) (tTupF t) := by
  refine ⟨fun pins s σ H Q I hq => wpAny_Tuple_spliced (thn (h.run pos pins s σ H _ I hq) fun us s1 ⟨xs, H1, I1, r, z, q⟩ => ⟨by rw [← r.length]; exact z, ?_⟩)⟩
  exact laidF I1 r z q s1.toks
/-- tuple(list) -/
def rTupF (K : PySem.W.Frag) : List V → Hp → VK → Prop := fun xs H Q => ∃ p ys, xs = [.ref p] ∧ SqL K H p ys ∧ ∀ l o, o.dict = none → H l = none → Q (.ref l) (upd H l (.frz o (.tup ys)))
theorem call_tupF : CallR X (.type "tuple") (rTupF X.K) := by
  intro pins s σ H xs us Q I r h
  obtain ⟨p, ys, rfl, hq, q⟩ := h
  obtain ⟨u, rfl, rx⟩ := vals1 r
  cases rx
  obtain ⟨its, r', pl, hz⟩ := I.list hq
  have lens := r'.length
  refine call_tuple_list pl.isList (fun h' kp => ?_) (by rw [List.size_toArray, ← lens]; exact hz)
  exact laidF (s := { s with heap := h' }) (I.kept (t' := s.toks) kp) r' hz q s.toks
/-- a slice of a tuple: the whole of it is itself -/
def rSlF (K : PySem.W.Frag) : V → Option Int → Option Int → Hp → VK → Prop := fun x lo hi H Q => ∃ a xs, x = .ref a ∧ SqT K H a xs ∧
  (HT.sIx xs.length 0 lo = 0 ∧ HT.sIx xs.length xs.length hi = xs.length → Q (.ref a) H) ∧ ∀ p o, o.dict = none → H p = none → Q (.ref p) (upd H p (.frz o (.tup (cutV xs lo hi))))
theorem sl_tupF : SlR X (rSlF X.K) := by
  intro pins s σ H x v vl vu lo hi sl Q I rx hs pl pu h
  obtain ⟨a, xs, rfl, hx, q1, q2⟩ := h
  cases rx
  obtain ⟨its, r, ht, hz⟩ := I.tuple hx
  have lens : its.toArray.size = xs.length := by rw [List.size_toArray]; exact r.length.symm
  refine ⟨"tuple", _, PyProof.Rows.slot_tuple_getitem.lookup, ht.typeIs, ?_⟩
  by_cases hw : HT.sIx xs.length 0 lo = 0 ∧ HT.sIx xs.length xs.length hi = xs.length
  · exact getItem_tuple_whole ht hs pl pu (by rw [lens]; exact hw) ⟨.ref a, H, I, rfl, q1 hw⟩
  · refine HT.getItem_tuple_cut ht hs pl pu (by rw [lens]; exact hw) ?_ (by rw [lens]; exact hz)
    rw [lens]
    exact laidF I ((r.drop _).take _) (Nat.le_trans (cutV_length xs lo hi) hz) q2 s.toks
theorem sl_seqF : SlR X (fun x lo hi H Q => rSlL X.K x lo hi H Q ∨ rSlF X.K x lo hi H Q) := SlR.or sl_list sl_tupF
/-- tuple + tuple -/
def rCatF (K : PySem.W.Frag) : R2 := fun x y H Q => ∃ a b xs ys, x = .ref a ∧ y = .ref b ∧ SqT K H a xs ∧ SqT K H b ys ∧ xs.length + ys.length ≤ sizeLine ∧
  (xs = [] → Q (.ref b) H) ∧ (ys = [] → Q (.ref a) H) ∧ ∀ p o, o.dict = none → H p = none → Q (.ref p) (upd H p (.frz o (.tup (xs ++ ys))))
theorem op_catF : OpR X (binaryOp .Add) (rCatF X.K) := by
  intro pins s σ H x y v u Q I rx ry h
  obtain ⟨a, b, xs, ys, rfl, rfl, ha, hb, hz, q0, q1, q2⟩ := h
  cases rx
  cases ry
  obtain ⟨its, r1, p1, _⟩ := I.tuple ha
  obtain ⟨its2, r2, p2, _⟩ := I.tuple hb
  by_cases hx : xs = []
  · subst hx
    cases r1
    exact cat_tup0 p1 p2 ⟨.ref b, H, I, rfl, q0 rfl⟩
  · refine HT.cat_tup p1 p2 (fun z => hx ((Vals.nil_iff r1).mp z)) (fun z => ⟨.ref a, H, I, rfl, q1 ((Vals.nil_iff r2).mp z)⟩) (fun _ => ?_) ?_
    · exact laidF I (r1.append r2) (by rw [List.length_append]; exact hz) q2 s.toks
    · rw [← r1.length, ← r2.length]
      exact hz
/-! ### list + list, both but read -/
def rCatR (K : PySem.W.Frag) : R2 := fun x y H Q => ∃ a b xs ys, x = .ref a ∧ y = .ref b ∧ SqL K H a xs ∧ SqL K H b ys ∧ xs.length + ys.length ≤ sizeLine ∧ ∀ p, H p = none → Q (.ref p) (upd H p (.lst (xs ++ ys)))
theorem op_catR : OpR X (binaryOp .Add) (rCatR X.K) := by
  intro pins s σ H x y v u Q I rx ry h
  obtain ⟨a, b, xs, ys, rfl, rfl, ha, hb, hz, q⟩ := h
  cases rx
  cases ry
  obtain ⟨its, r1, p1, _⟩ := I.list ha
  obtain ⟨its2, r2, p2, _⟩ := I.list hb
  obtain ⟨⟨c1, d1, t1, s1⟩, n1, e1, k1, _, g1⟩ := p1
  obtain ⟨⟨c2, d2, t2, s2⟩, n2, e2, k2, _, g2⟩ := p2
  simp only at k1 g1 k2 g2
  subst k1 g1 k2 g2
  have ej : its.toArray ++ its2.toArray = (its ++ its2).toArray := by simp
  have lens : its.toArray.size + its2.toArray.size ≤ sizeLine := by
    rw [List.size_toArray, List.size_toArray, ← r1.length, ← r2.length]
    exact hz
  refine concat_meets ⟨_, e1, rfl⟩ ⟨_, e2, rfl⟩ noFill_list_add seq_list_add PySem.F.slot_list_add PySem.F.entry_list_add (PySem.F.args_list_add_2 _ _) (list_addW a b its.toArray its2.toArray n1 n2 d1 d2 s1 s2 lens) ⟨e1, e2, ?_⟩
  rw [ej]
  exact ⟨.ref s.heap.objs.size, _, I.lnew (t' := s.toks) (r1.append r2) (by rw [List.length_append]; exact hz), rfl, q _ I.fresh⟩
/-- + of ints, of lists, of tuples -/
def rPlus (K : PySem.W.Frag) : R2 := fun x y H Q => rI0 (fun i j => .int (i + j)) x y H Q ∨ rCatR K x y H Q ∨ rCatF K x y H Q
theorem op_plus : OpR X (binaryOp .Add) (rPlus X.K) := OpR.or op_add (OpR.or op_catR op_catF)
/-! ### in, not in: lists and tuples of data -/
def itemsD : PyData → Option (List PyData)
  | .list ds => some ds
  | .tuple ds => some ds
  | _ => none
def rInU (K : PySem.W.Frag) (neg : Bool) : R2 := fun x y H Q => ∃ d c ds, Dp K H x d ∧ Dp K H y c ∧ itemsD c = some ds ∧ SeqAt.shaped d = true ∧ SeqAt.shaped c = true ∧ Q (.bl (if neg then !ds.any fun z => PyData.eqv z d else ds.any fun z => PyData.eqv z d)) H
theorem op_inU (hu : X.A.units + 65 < cLine) : OpR X (compareOp .In) (rInU X.K false) := by
  intro pins s σ H x y v u Q I rx ry h
  obtain ⟨d, c, ds, hd, he, ei, sd, se, q⟩ := h
  obtain ⟨as, r1⟩ := Dp.reads I d x v hd rx
  obtain ⟨bs, r2⟩ := Dp.reads I c y u he ry
  cases c with
  | list es =>
    cases ei
    exact SeqAt.in_list_reads r2 r1 (SeqAt.canLay_of_shaped se) (SeqAt.canLay_of_shaped sd) (room_in_shaped sd hu) ⟨.bl _, H, I, rfl, q⟩
  | tuple es =>
    cases ei
    exact SeqAt.in_tuple_reads r2 r1 (SeqAt.canLay_of_shaped se) (SeqAt.canLay_of_shaped sd) (room_in_shaped sd hu) ⟨.bl _, H, I, rfl, q⟩
  | _ => cases ei
theorem op_notInU (hu : X.A.units + 65 < cLine) : OpR X (compareOp .NotIn) (rInU X.K true) := by
  intro pins s σ H x y v u Q I rx ry h
  obtain ⟨d, c, ds, hd, he, ei, sd, se, q⟩ := h
  obtain ⟨as, r1⟩ := Dp.reads I d x v hd rx
  obtain ⟨bs, r2⟩ := Dp.reads I c y u he ry
  cases c with
  | list es =>
    cases ei
    exact SeqAt.notIn_list_reads r2 r1 (SeqAt.canLay_of_shaped se) (SeqAt.canLay_of_shaped sd) (room_in_shaped sd hu) ⟨.bl _, H, I, rfl, q⟩
  | tuple es =>
    cases ei
    exact SeqAt.notIn_tuple_reads r2 r1 (SeqAt.canLay_of_shaped se) (SeqAt.canLay_of_shaped sd) (room_in_shaped sd hu) ⟨.bl _, H, I, rfl, q⟩
  | _ => cases ei
/-! ### >= of alike data -/
def rGeD (K : PySem.W.Frag) : R2 := fun x y H Q => ∃ d e, Dp K H x d ∧ Dp K H y e ∧ PySem.W.alike d e = true ∧ d ≠ .none ∧ d.depth ≤ 64 ∧ Q (.bl (!PySem.W.dataLt d e)) H
theorem op_geD (hu : X.A.units + 64 < cLine) : OpR X (compareOp .GtE) (rGeD X.K) := by
  intro pins s σ H x y v u Q I rx ry h
  obtain ⟨d, e, hd, he, ha, hn, hk, q⟩ := h
  obtain ⟨as, r1⟩ := Dp.reads I d x v hd rx
  obtain ⟨bs, r2⟩ := Dp.reads I e y u he ry
  refine PySem.W.ge_data r1 r2 ha hn ?_ ⟨.bl _, H, I, rfl, q⟩
  have : min d.depth e.depth ≤ d.depth := Nat.min_le_left _ _
  omega
/-! ### a list or a tuple, walked, subscripted -/
theorem pi_or {tg e : Expr} {w1 w2 : TI} (h1 : PI X tg e w1) (h2 : PI X tg e w2) : PI X tg e (fun σ H R => w1 σ H R ∨ w2 σ H R) := ⟨fun pins s σ H R I h => by
  rcases h with h | h
  · exact h1.run pins s σ H R I h
  · exact h2.run pins s σ H R I h⟩
def iSeq (K : PySem.W.Frag) (tl : TE) : TI := fun σ H R => iList K tl σ H R ∨ iTup K tl σ H R
theorem pi_seq {tg l : Expr} {tl : TE} (hl : PE X l tl) : PI X tg l (iSeq X.K tl) := pi_or (pi_list hl) (pi_tup hl)
def rIxU (K : PySem.W.Frag) : R2 := fun x y H Q => rIxL K x y H Q ∨ rIxT K x y H Q
theorem ix_u : IxR X (rIxU X.K) := IxR.or ix_list ix_tup
end

/-! ### enumerate(tuple) -/
theorem meets_enum_tup (l : Addr) (items : Array Value) (n : Nat) (dd : Option Addr) (sl : Array (Option Value)) :
    Meets (Builtin.«enumerate.__new__» ⟨[.type "enumerate", .ref l], []⟩) (fun _ R s => s.heap.get? l = some { cls := .type "tuple", dict := dd, data := .seq items n, slots := sl } ∧
      R (.ok (.ret (.ref (s.heap.push { cls := .type "tuple_iterator", data := .fields #[.ref l, .int 0 0] }).objs.size)))
        { s with heap := (s.heap.push { cls := .type "tuple_iterator", data := .fields #[.ref l, .int 0 0] }).push { cls := .type "enumerate", data := .fields #[.none, .bool false, .ref s.heap.objs.size, rawInt 0, .none, .none] } }) :=
  .of_wp fun prog w A R s h => by
    obtain ⟨hp, g, d, tk, os⟩ := s
    obtain ⟨ht, h⟩ := h
    have hsub := sub_enumerate
    have hT : Heap.IsTuple (Shared.heap ⟨hp, g, d, tk, os⟩) l items := ⟨_, ht, rfl, n, rfl⟩
    wp_walk using AutoSeq1.wpAny_loadPart' ht
    refine wpAny_stack_any fun st => wpAny_pure ?_
    split
    · rename_i c _ _ _ _ _
      cases (c == Value.type "enumerate") <;> (wp_walk using AutoSeq1.wpAny_loadPart' ht, wpAny_pyIter_tuple hT; exact ⟨_, rfl, h⟩)
    · wp_walk using AutoSeq1.wpAny_loadPart' ht, wpAny_pyIter_tuple hT
      exact ⟨_, rfl, h⟩
section
variable {prog : Program} {w : World} {A : Around} {E : Value → Shared → Prop} {s : Shared}
theorem call_enum_tup {l : Addr} {items : Array Value} {Q : Value → Shared → Prop} (hT : s.heap.IsTuple l items)
    (h : ∀ h', IsEnum h' (s.heap.objs.size + 1) s.heap.objs.size 0 .none → h'.IsTupleIter s.heap.objs.size l 0 → (∀ b o, s.heap.get? b = some o → h'.get? b = some o) → Q (.ref (s.heap.objs.size + 1)) { s with heap := h' }) :
    wpAny (model prog w) A (call (.type "enumerate") [.ref l]) Q E s := by
  obtain ⟨⟨c, dd, dt, sl⟩, ht, hc, n, hd⟩ := hT
  simp only at hc hd
  subst hc hd
  refine callType_new F.called_enumerate (by decide) (F.typeCall_enumerate_1 _) (F.newCall_enumerate_1 _) (fun obj => F.args_object_init_2 obj _) F.entry_enumerate_new (meets_enum_tup l items n dd sl) ⟨ht, ?_⟩
  generalize ht1 : s.heap.push { cls := .type "tuple_iterator", data := .fields #[.ref l, .int 0 0] } = h1
  have hz : h1.objs.size = s.heap.objs.size + 1 := by rw [← ht1]; exact Heap.size_push ..
  have hi : h1.get? s.heap.objs.size = some { cls := .type "tuple_iterator", data := .fields #[.ref l, .int 0 0] } := by rw [← ht1]; exact Heap.get?_push_size _ rfl
  have hk : ∀ b o, s.heap.get? b = some o → h1.get? b = some o := fun b o e => by rw [← ht1]; exact Heap.get?_push_of_some _ e
  show _ ∧ _
  rw [hz]
  have he : IsEnum (h1.push { cls := .type "enumerate", data := .fields #[.none, .bool false, .ref s.heap.objs.size, rawInt 0, .none, .none] }) (s.heap.objs.size + 1) s.heap.objs.size 0 .none := by
    have q := Heap.get?_push_size h1 (o := { cls := .type "enumerate", data := .fields #[.none, .bool false, .ref s.heap.objs.size, rawInt 0, .none, .none] }) rfl
    rw [hz] at q
    exact q
  exact ⟨⟨_, he, rfl⟩, h _ he ⟨_, Heap.get?_push_of_some _ hi, rfl, rfl⟩ fun b o e => Heap.get?_push_of_some _ (hk b o e)⟩
end
/-- the tuple at a: each item in a new pair with its number -/
def ItE (K : PySem.W.Frag) (a : Addr) : It :=
  ⟨fun i H => ∃ (xs : List V) (x : V), SqT K H a xs ∧ xs[i]? = some x, fun i H v H' => ∃ T x, v = .ref T ∧ H T = none ∧ H' = upd H T (.tup [.int (i : Nat), x]) ∧ ∀ xs, SqT K H a xs → xs[i]? = some x, fun i H => ∃ xs : List V, SqT K H a xs ∧ xs.length ≤ i⟩
theorem turn_enumT {P : Program} {w : World} {K : PySem.W.Frag} {elts : List Expr} {kk : Nat} {tpos : Pos} (a e it : Addr) (n : Nat) (hat : a ≠ it) (hae : a ≠ e) :
    Turn P w K (.Tuple elts kk tpos) (ItE K a) [e, it] e (fun i h => (∃ old, IsEnum h e it ((i : Nat) : Int) old) ∧ h.IsTupleIter it a i ∧ e ≠ it) where
  mem := List.mem_cons_self
  obj := fun i h st b hb => by
    obtain ⟨⟨old, he⟩, ⟨o, ho, _, hd⟩, _⟩ := st
    rcases List.mem_cons.mp hb with z | hb
    · subst z
      exact ⟨_, he, fun v q => nomatch q⟩
    · have z := List.mem_singleton.mp hb
      subst z
      exact ⟨o, ho, fun v q => by rw [hd] at q; cases q⟩
  keep := fun i h h' st k => let ⟨⟨old, he⟩, hi, hne⟩ := st; ⟨⟨old, k e List.mem_cons_self _ he⟩, hi.at fun o q => k it (List.mem_cons_of_mem _ List.mem_cons_self) o q, hne⟩
  item := by
    intro X hP hw hK hc i pins s σ H E I hf st hg
    subst hP hw hK
    obtain ⟨⟨old, he⟩, hit, hne⟩ := st
    obtain ⟨xs, x, hq, hx⟩ := hg
    obtain ⟨its, rv, p, hz⟩ := I.tuple hq
    obtain ⟨u, hu, ru⟩ := rv.get hx
    have hel : e < s.heap.objs.size := Heap.lt_size he
    have hil : it < s.heap.objs.size := by
      obtain ⟨_, q, _⟩ := hit
      exact Heap.lt_size q
    have hi : i < its.toArray.size := by
      rw [List.size_toArray]
      exact (List.getElem?_eq_some_iff.mp hu).1
    have D := Draws.tuple (prog := X.prog) (w := X.w) (A := X.A.in1) (I.ok.hd hc) it a hat its.toArray
    refine wpAny_pyNext_enum_itemC D he ⟨hit, p⟩ hi hne (fun z => by
      rcases List.mem_cons.mp z with z | z
      · exact hne z
      · exact hae (List.mem_singleton.mp z).symm) fun x' h' tk hP ho hst hT hsz hk => ?_
    have hx' : x' = u := by
      have q : its.toArray[i]? = some u := by
        rw [List.getElem?_toArray]
        exact hu
      exact Option.some.inj (hP.symm.trans q)
    subst hx'
    refine ⟨_, rfl, wpAny_letOwnedTupleGo_enum (s := { s with heap := h', toks := tk + 1 }) ho fun h'' he' sb => ?_⟩
    have hT2 : h''.get? s.heap.objs.size = some (tupO [.int i tk, x']) := (sb.2 _ (Nat.ne_of_gt hel)).trans hT
    have new : ObjOk X.prog X.w (upd H s.heap.objs.size (.tup [.int (i : Nat), x])) h'' s.heap.objs.size (.tup [.int (i : Nat), x]) :=
      ⟨(by decide : 2 ≤ sizeLine), [.int i tk, x'], .cons ⟨_, rfl⟩ (.cons ru .nil), ⟨_, hT2, rfl, _, rfl⟩⟩
    have I1 : Inv X pins σ (upd H s.heap.objs.size (.tup [.int (i : Nat), x])) { s with heap := h'', toks := tk + 1 } :=
      I.turnedNew (ch := [e, it]) (fun b ob hb q => by
        have b1 : b ≠ e := fun z => hb (z ▸ List.mem_cons_self)
        have b2 : b ≠ it := fun z => hb (z ▸ List.mem_cons_of_mem _ List.mem_cons_self)
        exact (sb.2 b b1).trans (hk b ob b1 b2 q)) hf (Nat.le_refl _) new
    refine ⟨.ref s.heap.objs.size, _, I1, rfl, ⟨_, x, rfl, I.hok.fresh (Nat.le_refl _), rfl, fun ys hy => by rw [I.tuple_inj hy hq]; exact hx⟩, ⟨⟨x', ?_⟩, hst.1.at fun o q => (sb.2 it (Ne.symm hne)).trans q, hne⟩, fun b hb => ?_⟩
    · have e1 : ((i + 1 : Nat) : Int) = (i : Int) + 1 := by omega
      rw [e1]
      exact he'
    · have hlt : b < s.heap.objs.size := by
        rcases List.mem_cons.mp hb with z | hb
        · exact z ▸ hel
        · exact List.mem_singleton.mp hb ▸ hil
      rw [upd_ne (Nat.ne_of_lt hlt)]
      exact (hf b hb).1
  done := by
    intro X hP hw hK hc i pins s σ H E I hf st hg
    subst hP hw hK
    obtain ⟨⟨old, he⟩, hit, hne⟩ := st
    obtain ⟨xs, hq, hx⟩ := hg
    obtain ⟨its, rv, p, hz⟩ := I.tuple hq
    obtain ⟨f0, f1, f2, f3, f4, f5⟩ := hf it (List.mem_cons_of_mem _ List.mem_cons_self)
    have hh := I.ok.hd hc
    have hend : its.toArray[i]? = none := by
      rw [List.getElem?_toArray]
      exact List.getElem?_eq_none (by rw [← rv.length]; exact hx)
    have hT : s.TypeIs (.ref e) "enumerate" := ⟨_, he, rfl⟩
    unfold pyNext
    refine wpAny_bind (wpAny_attempt (wpAny_callSpecial?_slot (name := Str.ofString "__next__") hT F.slot_enumerate_next (wpAny_call_entry F.slot_enumerate_next hT F.entry_enumerate_next ?_ (F.args_enumerate_next_1 _))))
    show wpAny _ _ (field (.ref e) 2 >>= _) _ _ _
    refine wpAny_bind (wpAny_field he rfl (x := .ref it) rfl ?_)
    refine wpAny_bind (wpAny_nextOf_tuple_end hh hit p hend fun h' x ex hx' => ?_)
    obtain ⟨o, ho, hc'⟩ := hx'
    exact wpAny_bind (wpAny_isInstance (T := "StopIteration") (b := true) ⟨o, ho, hc'⟩ isSubtype_stop (wpAny_pure ⟨rfl, I.turned (t' := s.toks) (fun b o hb q => ex b o hb q) f0 f1 f3 f4 f5⟩))
  self := fun A i s Q E st h => let ⟨⟨_, he⟩, _⟩ := st; wpAny_pyIter_enum he h
def iEnumT (K : PySem.W.Frag) (ta : TA) : TI := fun σ H R => ta σ H fun vs H1 => ∃ a xs, vs = [.ref a] ∧ SqT K H1 a xs ∧ R (ItE K a) H1
theorem pi_enumT {X : Cx} {e : Expr} {ta : TA} {p pos tpos : Pos} {elts : List Expr} {kk : Nat} (hg : Gl X "enumerate") (hm : X.mg "enumerate" = none) (ha : PA X [e] ta) (hs : starEach [e] X.env = [(false, eval e X.env)] := by rfl) :
    PI X (.Tuple elts kk tpos) (.Call (.Name "enumerate" p) [e] [] pos) (iEnumT X.K ta) := by
  refine ⟨fun pins s σ H R I h => Call_ (ld_blt I hg hm boot_enumerate (PyProof.Rows.callWith_type1 (thn (ha.run pos pins s σ H _ I h) fun us s1 ⟨vs, H1, I1, r1, q1⟩ => ?_) hs rfl))⟩
  obtain ⟨a, xs, ex, hq, q⟩ := q1
  subst ex
  obtain ⟨u, rfl, r⟩ := vals1 r1
  cases r
  obtain ⟨its, rv, p', hz⟩ := I1.tuple hq
  have hlt : a < s1.heap.objs.size := by
    obtain ⟨_, ho, _⟩ := p'
    exact Heap.lt_size ho
  refine call_enum_tup p' fun h' he hit hk => wpAny_pyIter_enum he ?_
  have ne1 : a ≠ s1.heap.objs.size := Nat.ne_of_lt hlt
  have ne2 : a ≠ s1.heap.objs.size + 1 := Nat.ne_of_lt (Nat.lt_succ_of_lt hlt)
  refine ⟨s1.heap.objs.size + 1, [s1.heap.objs.size + 1, s1.heap.objs.size], _, _, H1, rfl, I1.kept (t' := s1.toks) hk, turn_enumT a (s1.heap.objs.size + 1) s1.heap.objs.size 0 ne1 ne2, ⟨⟨.none, he⟩, hit, Nat.succ_ne_self _⟩, fun b hb => ?_, q⟩
  have hle : s1.heap.objs.size ≤ b := by
    rcases List.mem_cons.mp hb with z | hb
    · rw [z]
      exact Nat.le_succ _
    · rw [List.mem_singleton.mp hb]
      exact Nat.le_refl _
  exact I1.fpOk hle (I1.hok.fresh hle)

/-! ### dict(tuple of pairs) -/
section
variable {X : Cx}
theorem pairs_two {pins : List (Addr × Obj)} {σ : L2.St} {H : Hp} {s : Shared} (I : Inv X pins σ H s) : ∀ {ps : List Addr} {kvs : List (Key × V)}, Paired (fun p kv => SqT X.K H p [kV kv.1, kv.2]) ps kvs →
    ∃ (prs : List (Key × Value)) (vvs : List (Value × Value)), KV kvs prs ∧ prs.length = ps.length ∧ vvs.length = ps.length ∧ ∀ (j : Nat) (u y : Value), vvs[j]? = some (u, y) → ∃ (b : Addr) (k : Key), ps[j]? = some b ∧ prs[j]? = some (k, y) ∧ IsTup s.heap b #[u, y] ∧ keyIs k u = true
  | _, _, .nil => ⟨[], [], .nil, rfl, rfl, fun j u y e => by simp at e⟩
  | _, _, .cons (a := p) (b := kv) h t => by
    obtain ⟨prs, vvs, r, hl, hl2, hp⟩ := pairs_two I t
    obtain ⟨its, rv, ht, _⟩ := I.tuple h
    obtain ⟨u, y, ei, ru, ry⟩ := vals2 rv
    subst ei
    refine ⟨(kv.1, y) :: prs, (u, y) :: vvs, .cons ⟨rfl, ry⟩ r, by rw [List.length_cons, List.length_cons, hl], by rw [List.length_cons, List.length_cons, hl2], fun j u' y' e => ?_⟩
    cases j with
    | zero =>
      have e' : (u, y) = (u', y') := Option.some.inj e
      cases e'
      exact ⟨p, kv.1, rfl, rfl, ht, kV_is (P := X.prog) (w := X.w) ru⟩
    | succ j => exact hp j u' y' e
def rDictT (K : PySem.W.Frag) : List V → Hp → VK → Prop := fun xs H Q => ∃ (a : Addr) (o : Obj) (ps : List Addr) (kvs : List (Key × V)), xs = [.ref a] ∧ H a = some (.frz o (.tup (ps.map V.ref))) ∧ o.dict = none ∧ Paired (fun p kv => SqT K H p [kV kv.1, kv.2]) ps kvs ∧
    ∀ p, H p = none → Q (.ref p) (upd H p (.dK (mergeK [] kvs)))
theorem call_dictT (hc : X.calm = true) : CallR X (.type "dict") (rDictT X.K) := by
  intro pins s σ H xs us Q I r q
  obtain ⟨a, o, ps, kvs, rfl, ha, hd, hp, q⟩ := q
  obtain ⟨u, rfl, rx⟩ := vals1 r
  cases rx
  obtain ⟨ho, hz, its, rv, hT⟩ := I.hok a _ ha
  have ei := refs_at rv
  subst ei
  obtain ⟨o', ho', hcl, n, hdat⟩ := hT
  rw [ho] at ho'
  cases ho'
  rw [List.length_map] at hz
  obtain ⟨prs, vvs, rel, hl, hl2, hpr⟩ := pairs_two I hp
  have lens : (ps.map Value.ref).toArray.size = vvs.length := by
    rw [List.size_toArray, List.length_map, hl2]
  refine PySem.call_dict_pairs (knd := mixKind X.prog X.w) (kvs := prs) (PairArg.tuple a (ps.map Value.ref).toArray (fun j => ps.getD j 0) vvs) (I.ok.hd hc) ⟨⟨o, n, ho, hcl, hd, hdat⟩, lens, fun j k v e => ?_⟩ ⟨by rw [hl, hl2], fun i key v e => ?_⟩ (by rw [hl2]; exact hz) fun h' tk hd' k => ?_
  · obtain ⟨b, k', e1, e2, e3, e4⟩ := hpr j k v e
    have eg : ps.getD j 0 = b := by
      rw [List.getD_eq_getElem?_getD, e1]
      rfl
    refine ⟨?_, .inl ?_⟩
    · show (ps.map Value.ref).toArray[j]? = some (Value.ref (ps.getD j 0))
      rw [List.getElem?_toArray, List.getElem?_map, e1, eg]
      rfl
    · show s.heap.IsTuple (ps.getD j 0) #[k, v]
      rw [eg]
      exact e3
  · obtain ⟨b, k', e1, e2, e3, e4⟩ := hpr i key v e
    exact ⟨k', e2, e4⟩
  · have hm : (s.heap.objs.size == sysModules) = false := beq_eq_false_iff_ne.mpr (Nat.ne_of_gt I.big)
    have hlen : (mergeK [] kvs).length ≤ sizeLine := by
      refine Nat.le_trans (length_mergeK kvs []) ?_
      rw [List.length_nil, Nat.zero_add, rel.length, hl]
      exact hz
    exact ⟨.ref s.heap.objs.size, _, I.laid (t' := tk) (o := .dK (mergeK [] kvs)) (fun b o e => k b o (by simp) e) (Nat.le_refl _) ⟨hlen, hm, merged [] prs, KV.merge rel .nil, hd'⟩, rfl, q _ (I.hok.fresh (Nat.le_refl _))⟩
end
end K3
set_option Elab.async false
set_option linter.all false
set_option maxRecDepth 100000
set_option maxHeartbeats 4000000
/-! Readings as evaluation on data: a slot holds a datum (or a small dict); an expression comes to a datum, the heap only grows. -/
namespace K3
open PySem PySem.Spec PyProof.Rows L2

/-! ### data in the heap: each tuple is locked as the plain object that it is -/
mutual
inductive Dq (K : PySem.W.Frag) (H : Hp) : V → PyData → Prop
  | non : Dq K H .non .none
  | bl (b : Bool) : Dq K H (.bl b) (.bool b)
  | int (i : Int) : Dq K H (.int i) (.int i)
  | str (x : Str) : Dq K H (.str x) (.str x)
  | lst {a : Addr} {xs : List V} {ds : List PyData} : SqL K H a xs → DqAll K H xs ds → Dq K H (.ref a) (.list ds)
  | tup {a : Addr} {o : Obj} {xs : List V} {ds : List PyData} : H a = some (.frz o (.tup xs)) → o.dict = none → DqAll K H xs ds → Dq K H (.ref a) (.tuple ds)
inductive DqAll (K : PySem.W.Frag) (H : Hp) : List V → List PyData → Prop
  | nil : DqAll K H [] []
  | cons {v : V} {vs : List V} {d : PyData} {ds : List PyData} : Dq K H v d → DqAll K H vs ds → DqAll K H (v :: vs) (d :: ds)
end
theorem sqT_f {K : PySem.W.Frag} {H : Hp} {a : Addr} {o : Obj} {xs : List V} (h : H a = some (.frz o (.tup xs))) : SqT K H a xs := .inl (.inr ⟨o, h⟩)
mutual
theorem Dq.dp {K : PySem.W.Frag} {H : Hp} : ∀ {v : V} {d : PyData}, Dq K H v d → Dp K H v d
  | _, _, .non => .non
  | _, _, .bl b => .bl b
  | _, _, .int i => .int i
  | _, _, .str x => .str x
  | _, _, .lst h t => .lst h (DqAll.dp t)
  | _, _, .tup h _ t => .tup (sqT_f h) (DqAll.dp t)
theorem DqAll.dp {K : PySem.W.Frag} {H : Hp} : ∀ {vs : List V} {ds : List PyData}, DqAll K H vs ds → DpAll K H vs ds
  | _, _, .nil => .nil
  | _, _, .cons h t => .cons (Dq.dp h) (DqAll.dp t)
end
mutual
theorem dp_same {K : PySem.W.Frag} {H H' : Hp} (e : Same H H') : ∀ {v : V} {d : PyData}, Dq K H v d → Dq K H' v d
  | _, _, .non => .non
  | _, _, .bl b => .bl b
  | _, _, .int i => .int i
  | _, _, .str x => .str x
  | _, _, .lst h t => .lst (e.seq h) (dpAll_same e t)
  | _, _, .tup h n t => .tup (e _ _ h) n (dpAll_same e t)
theorem dpAll_same {K : PySem.W.Frag} {H H' : Hp} (e : Same H H') : ∀ {vs : List V} {ds : List PyData}, DqAll K H vs ds → DqAll K H' vs ds
  | _, _, .nil => .nil
  | _, _, .cons h t => .cons (dp_same e h) (dpAll_same e t)
end
theorem same_new {H : Hp} {p : Addr} {o : HO} (h : H p = none) : Same H (upd H p o) := fun b u e => by
  rw [upd_ne (ne_of_none e h)]
  exact e
/-- an address that H does not know may be written -/
theorem same_mut {H H' : Hp} {p : Addr} {o : HO} (e : Same H H') (h : H p = none) : Same H (upd H' p o) := fun b u k => by
  rw [upd_ne (ne_of_none k h)]
  exact e b u k
section
variable {K : PySem.W.Frag} {H : Hp}
theorem DqAll.len : ∀ {vs : List V} {ds : List PyData}, DqAll K H vs ds → vs.length = ds.length
  | _, _, .nil => rfl
  | _, _, .cons _ t => congrArg (· + 1) (DqAll.len t)
theorem DqAll.at_ : ∀ {vs : List V} {ds : List PyData}, DqAll K H vs ds → ∀ {i : Nat} {d : PyData}, ds[i]? = some d → ∃ v, vs[i]? = some v ∧ Dq K H v d
  | _, _, .nil, i, d, h => by simp at h
  | _, _, .cons h _, 0, d, e => ⟨_, rfl, Option.some.inj e ▸ h⟩
  | _, _, .cons _ t, i + 1, d, e => DqAll.at_ t (i := i) e
theorem DqAll.back : ∀ {vs : List V} {ds : List PyData}, DqAll K H vs ds → ∀ {i : Nat} {v : V}, vs[i]? = some v → ∃ d, ds[i]? = some d ∧ Dq K H v d
  | _, _, .nil, i, v, h => by simp at h
  | _, _, .cons h _, 0, v, e => ⟨_, rfl, Option.some.inj e ▸ h⟩
  | _, _, .cons _ t, i + 1, v, e => DqAll.back t (i := i) e
theorem DqAll.app : ∀ {vs ws : List V} {ds es : List PyData}, DqAll K H vs ds → DqAll K H ws es → DqAll K H (vs ++ ws) (ds ++ es)
  | _, _, _, _, .nil, u => u
  | _, _, _, _, .cons h t, u => .cons h (DqAll.app t u)
theorem DqAll.tak : ∀ (n : Nat) {vs : List V} {ds : List PyData}, DqAll K H vs ds → DqAll K H (vs.take n) (ds.take n)
  | 0, _, _, _ => .nil
  | _ + 1, _, _, .nil => .nil
  | n + 1, _, _, .cons h t => .cons h (DqAll.tak n t)
theorem DqAll.drp : ∀ (n : Nat) {vs : List V} {ds : List PyData}, DqAll K H vs ds → DqAll K H (vs.drop n) (ds.drop n)
  | 0, _, _, h => h
  | _ + 1, _, _, .nil => .nil
  | n + 1, _, _, .cons _ t => DqAll.drp n t
theorem DqAll.ints : ∀ {vs : List V} {ns : List Int}, DqAll K H vs (ns.map .int) → vs = ns.map V.int
  | _, [], .nil => rfl
  | _, n :: r, .cons h t => by
    cases h
    rw [List.map_cons, ← DqAll.ints t]
theorem DqAll.ofInts : ∀ (ns : List Int), DqAll K H (ns.map V.int) (ns.map .int)
  | [] => .nil
  | n :: r => .cons (.int n) (DqAll.ofInts r)
theorem DqAll.bools : ∀ {vs : List V} {bs : List Bool}, DqAll K H vs (bs.map .bool) → vs = bs.map V.bl
  | _, [], .nil => rfl
  | _, n :: r, .cons h t => by
    cases h
    rw [List.map_cons, ← DqAll.bools t]
theorem Dq.getT {v : V} {ds : List PyData} (h : Dq K H v (.tuple ds)) : ∃ a o xs, v = .ref a ∧ H a = some (.frz o (.tup xs)) ∧ o.dict = none ∧ DqAll K H xs ds := by
  cases h with
  | tup h n t => exact ⟨_, _, _, rfl, h, n, t⟩
theorem Dq.getL {v : V} {ds : List PyData} (h : Dq K H v (.list ds)) : ∃ a xs, v = .ref a ∧ SqL K H a xs ∧ DqAll K H xs ds := by
  cases h with
  | lst h t => exact ⟨_, _, rfl, h, t⟩
theorem Dq.getI {v : V} {i : Int} (h : Dq K H v (.int i)) : v = .int i := by cases h; rfl
theorem Dq.getB {v : V} {b : Bool} (h : Dq K H v (.bool b)) : v = .bl b := by cases h; rfl
theorem Dq.getS {v : V} {x : Str} (h : Dq K H v (.str x)) : v = .str x := by cases h; rfl
theorem Dq.getN {v : V} (h : Dq K H v .none) : v = .non := by cases h; rfl
end

/-! ### slots -/
/-- what a slot is known to hold: nothing, a datum, a dict -/
inductive Sl where
  | no | d (x : PyData) | m (kvs : List (Key × V))
abbrev Rho := List Sl
def SlOk (K : PySem.W.Frag) (H : Hp) : Option V → Sl → Prop
  | _, .no => True
  | o, .d x => ∃ v, o = some v ∧ Dq K H v x
  | o, .m kvs => ∃ a, o = some (.ref a) ∧ H a = some (.dK kvs)
structure EnvD (K : PySem.W.Frag) (H : Hp) (σ : L2.St) (ρ : Rho) : Prop where
  len : σ.length = ρ.length
  at_ : ∀ (i : Nat) (o : Option V) (s : Sl), σ[i]? = some o → ρ[i]? = some s → SlOk K H o s
section
variable {K : PySem.W.Frag} {H H' : Hp} {σ : L2.St} {ρ : Rho}
theorem SlOk.same (e : Same H H') : ∀ {o : Option V} {s : Sl}, SlOk K H o s → SlOk K H' o s
  | _, .no, _ => trivial
  | _, .d _, ⟨v, h, k⟩ => ⟨v, h, dp_same e k⟩
  | _, .m _, ⟨a, h, k⟩ => ⟨a, h, e _ _ k⟩
theorem EnvD.same (h : EnvD K H σ ρ) (e : Same H H') : EnvD K H' σ ρ := ⟨h.len, fun i o s a b => (h.at_ i o s a b).same e⟩
theorem EnvD.get (h : EnvD K H σ ρ) {i : Nat} {x : PyData} (e : ρ[i]? = some (.d x)) : ∃ v, σ[i]? = some (some v) ∧ Dq K H v x := by
  have hi : i < σ.length := by
    rw [h.len]
    exact (List.getElem?_eq_some_iff.mp e).1
  obtain ⟨v, e1, e2⟩ := h.at_ i σ[i] _ (List.getElem?_eq_getElem hi) e
  exact ⟨v, by rw [List.getElem?_eq_getElem hi, e1], e2⟩
theorem EnvD.getM (h : EnvD K H σ ρ) {i : Nat} {kvs : List (Key × V)} (e : ρ[i]? = some (.m kvs)) : ∃ a, σ[i]? = some (some (.ref a)) ∧ H a = some (.dK kvs) := by
  have hi : i < σ.length := by
    rw [h.len]
    exact (List.getElem?_eq_some_iff.mp e).1
  obtain ⟨v, e1, e2⟩ := h.at_ i σ[i] _ (List.getElem?_eq_getElem hi) e
  exact ⟨v, by rw [List.getElem?_eq_getElem hi, e1], e2⟩
theorem EnvD.set (h : EnvD K H σ ρ) (i : Nat) {o : Option V} {s : Sl} (k : SlOk K H o s) : EnvD K H (σ.set i o) (ρ.set i s) := by
  refine ⟨by rw [List.length_set, List.length_set, h.len], fun j p t a b => ?_⟩
  rw [List.getElem?_set] at a b
  by_cases e : i = j
  · rw [if_pos e] at a b
    by_cases l : i < σ.length
    · rw [if_pos l] at a
      rw [if_pos (h.len ▸ l)] at b
      cases a
      cases b
      exact k
    · rw [if_neg l] at a
      cases a
  · rw [if_neg e] at a b
    exact h.at_ j p t a b
def wipeR (ρ : Rho) : List Nat → Rho
  | [] => ρ
  | v :: vs => (wipeR ρ vs).set v .no
theorem EnvD.wipe (h : EnvD K H σ ρ) : ∀ vs : List Nat, EnvD K H (wipe σ vs) (wipeR ρ vs)
  | [] => h
  | v :: vs => (EnvD.wipe h vs).set v trivial
theorem EnvD.start {N : List Str} {vs : List V} {ds : List PyData} (h : DqAll K H vs ds) : EnvD K H (L2.start N vs) (ds.map Sl.d ++ List.replicate (N.length - ds.length) Sl.no) := by
  unfold L2.start
  rw [← h.len]
  refine ⟨by rw [List.length_append, List.length_append, List.length_map, List.length_map, List.length_replicate, List.length_replicate, h.len], fun i o s a b => ?_⟩
  by_cases l : i < vs.length
  · rw [List.getElem?_append_left (by rw [List.length_map]; exact l), List.getElem?_map] at a
    rw [List.getElem?_append_left (by rw [List.length_map, ← h.len]; exact l), List.getElem?_map] at b
    obtain ⟨d, hd, k⟩ := h.back (List.getElem?_eq_getElem l)
    rw [List.getElem?_eq_getElem l] at a
    rw [hd] at b
    cases a
    cases b
    exact ⟨_, rfl, k⟩
  · rw [List.getElem?_append_right (by rw [List.length_map, ← h.len]; omega), List.getElem?_replicate] at b
    split at b
    · cases b
      trivial
    · cases b
end

/-! ### what comes to what -/
def DE (K : PySem.W.Frag) (te : TE) (ρ : Rho) (d : PyData) : Prop := ∀ (σ : L2.St) (H : Hp) (Q : VK), EnvD K H σ ρ → (∀ v H', Same H H' → Dq K H' v d → Q v H') → te σ H Q
def DA (K : PySem.W.Frag) (ta : TA) (ρ : Rho) (ds : List PyData) : Prop := ∀ (σ : L2.St) (H : Hp) (Q : List V → Hp → Prop), EnvD K H σ ρ → (∀ vs H', Same H H' → DqAll K H' vs ds → Q vs H') → ta σ H Q
def DT (K : PySem.W.Frag) (t : TT) (ρ : Rho) (b : Bool) : Prop := ∀ (σ : L2.St) (H : Hp) (Q : Bool → Hp → Prop), EnvD K H σ ρ → (∀ H', Same H H' → Q b H') → t σ H Q
def DO (K : PySem.W.Frag) (t : TO) (ρ : Rho) (o : Option Int) : Prop := ∀ (σ : L2.St) (H : Hp) (Q : Option Int → Hp → Prop), EnvD K H σ ρ → (∀ H', Same H H' → Q o H') → t σ H Q
/-- a rule on values, a call rule on values -/
def DR2 (K : PySem.W.Frag) (r : R2) (x y z : PyData) : Prop := ∀ (H : Hp) (v u : V) (Q : VK), Dq K H v x → Dq K H u y → (∀ w H', Same H H' → Dq K H' w z → Q w H') → r v u H Q
def DC (K : PySem.W.Frag) (r : List V → Hp → VK → Prop) (xs : List PyData) (z : PyData) : Prop := ∀ (H : Hp) (vs : List V) (Q : VK), DqAll K H vs xs → (∀ w H', Same H H' → Dq K H' w z → Q w H') → r vs H Q
/-- a walk gives these data, one a turn -/
structure Wk (P : Hp → V → PyData → Prop) (J : It) (H1 : Hp) (ds : List PyData) : Prop where
  goes : ∀ i H, Same H1 H → i < ds.length → J.go i H
  stops : ∀ H, Same H1 H → J.stop ds.length H
  yields : ∀ i H x H' d, Same H1 H → ds[i]? = some d → J.yld i H x H' → Same H H' ∧ P H' x d
def DI (K : PySem.W.Frag) (P : Hp → V → PyData → Prop) (wi : TI) (ρ : Rho) (ds : List PyData) : Prop := ∀ (σ : L2.St) (H : Hp) (R : It → Hp → Prop), EnvD K H σ ρ → (∀ J H1, Same H H1 → Wk P J H1 ds → R J H1) → wi σ H R
/-- a target takes d: the slots behind it, none but those at vs changed -/
def DG (K : PySem.W.Frag) (P : Hp → V → PyData → Prop) (vs : List Nat) (g : TG) (d : PyData) (ρ ρ' : Rho) : Prop := ∀ (v : V) (σ : L2.St) (H : Hp) (Q : L2.St → Hp → Prop), P H v d → EnvD K H σ ρ →
  (∀ σ' H', Same H H' → EnvD K H' σ' ρ' → wipe σ' vs = wipe σ vs → Q σ' H') → g v σ H Q
/-- a block falls through to these slots; it returns this datum -/
def DN (K : PySem.W.Frag) (t : TS) (ρ ρ' : Rho) : Prop := ∀ (D : Ends) (σ : L2.St) (H : Hp), EnvD K H σ ρ → (∀ σ' H', Same H H' → EnvD K H' σ' ρ' → D.nx σ' H') → t D σ H
def DR (K : PySem.W.Frag) (t : TS) (ρ : Rho) (d : PyData) : Prop := ∀ (D : Ends) (σ : L2.St) (H : Hp), EnvD K H σ ρ → (∀ v H', Same H H' → Dq K H' v d → D.rt v H') → t D σ H

section
variable {K : PySem.W.Frag} {ρ ρ1 ρ' : Rho} {ta tb te : TE} {t u : TT} {x y z d : PyData} {r : R2}
theorem DE.is {d' : PyData} (h : DE K te ρ d) (e : d = d') : DE K te ρ d' := e ▸ h
theorem DT.is {b b' : Bool} (h : DT K t ρ b) (e : b = b') : DT K t ρ b' := e ▸ h
theorem de_var {i : Nat} (h : ρ[i]? = some (.d d)) : DE K (tVar i) ρ d := fun σ H Q e q => by
  obtain ⟨v, e1, e2⟩ := e.get h
  exact ⟨v, e1, q v H (Same.refl H) e2⟩
theorem de_int {i : Int} : DE K (tC (.int i)) ρ (.int i) := fun σ H Q e q => q _ H (Same.refl H) (.int i)
theorem de_bl {b : Bool} : DE K (tC (.bl b)) ρ (.bool b) := fun σ H Q e q => q _ H (Same.refl H) (.bl b)
theorem de_str {x : Str} : DE K (tC (.str x)) ρ (.str x) := fun σ H Q e q => q _ H (Same.refl H) (.str x)
theorem de_non : DE K (tC .non) ρ .none := fun σ H Q e q => q _ H (Same.refl H) .non
theorem de_op (ha : DE K ta ρ x) (hb : DE K tb ρ y) (hr : DR2 K r x y z) : DE K (tOp r ta tb) ρ z := fun σ H Q e q =>
  ha σ H _ e fun v H1 s1 d1 => hb σ H1 _ (e.same s1) fun w H2 s2 d2 => hr H2 v w Q (dp_same s2 d1) d2 fun z H3 s3 d3 => q z H3 ((s1.trans s2).trans s3) d3
theorem de_un {r : V → Hp → VK → Prop} {i j : Int} (ha : DE K ta ρ (.int i)) (hr : ∀ H (Q : VK), Q (.int j) H → r (.int i) H Q) : DE K (tUn r ta) ρ (.int j) := fun σ H Q e q =>
  ha σ H _ e fun v H1 s1 d1 => by
    rw [d1.getI]
    exact hr H1 Q (q _ H1 s1 (.int j))
/-! rules on values -/
theorem r_I0 {g : Int → Int → V} {i j : Int} (h : ∀ H, Dq K H (g i j) z) : DR2 K (rI0 g) (.int i) (.int j) z := fun H v u Q a b q => ⟨i, j, a.getI, b.getI, q _ H (Same.refl H) (h H)⟩
theorem r_I {C : Int → Int → Prop} {g : Int → Int → V} {i j : Int} (hc : C i j) (h : ∀ H, Dq K H (g i j) z) : DR2 K (rI C g) (.int i) (.int j) z := fun H v u Q a b q => ⟨i, j, a.getI, b.getI, hc, q _ H (Same.refl H) (h H)⟩
theorem r_eqD (hx : SeqAt.shaped x = true) (hy : SeqAt.shaped y = true) : DR2 K (rEqD K) x y (.bool (PyData.eqv x y)) := fun H v u Q a b q => ⟨x, y, a.dp, b.dp, hx, hy, q _ H (Same.refl H) (.bl _)⟩
theorem r_neD (hx : SeqAt.shaped x = true) (hy : SeqAt.shaped y = true) : DR2 K (rNeD K) x y (.bool (!PyData.eqv x y)) := fun H v u Q a b q => ⟨x, y, a.dp, b.dp, hx, hy, q _ H (Same.refl H) (.bl _)⟩
theorem r_inU {neg : Bool} {ds : List PyData} (hi : itemsD y = some ds) (hx : SeqAt.shaped x = true) (hy : SeqAt.shaped y = true) : DR2 K (rInU K neg) x y (.bool (if neg then !ds.any fun z => PyData.eqv z x else ds.any fun z => PyData.eqv z x)) :=
  fun H v u Q a b q => ⟨x, y, ds, a.dp, b.dp, hi, hx, hy, q _ H (Same.refl H) (.bl _)⟩
theorem r_geD (h : PySem.W.alike x y = true) (hn : x ≠ .none) (hk : x.depth ≤ 64) : DR2 K (rGeD K) x y (.bool (!PySem.W.dataLt x y)) := fun H v u Q a b q => ⟨x, y, a.dp, b.dp, h, hn, hk, q _ H (Same.refl H) (.bl _)⟩
theorem r_ix {ds : List PyData} {i : Int} {j : Nat} (hi : itemsD x = some ds) (e : i = (j : Int)) (h : ds[j]? = some z) : DR2 K (rIxU K) x (.int i) z := fun H v u Q a b q => by
  cases x with
  | list es =>
    cases hi
    obtain ⟨p, xs, rfl, hs, hd⟩ := Dq.getL a
    obtain ⟨w, hw, k⟩ := hd.at_ h
    exact .inl ⟨p, xs, i, w, rfl, b.getI, hs, e ▸ atI_nat hw, q w H (Same.refl H) k⟩
  | tuple es =>
    cases hi
    obtain ⟨p, o, xs, rfl, hs, _, hd⟩ := Dq.getT a
    obtain ⟨w, hw, k⟩ := hd.at_ h
    exact .inr ⟨p, xs, i, w, rfl, b.getI, sqT_f hs, e ▸ atI_nat hw, q w H (Same.refl H) k⟩
  | _ => cases hi
theorem r_plusI {i j : Int} : DR2 K (rPlus K) (.int i) (.int j) (.int (i + j)) := fun H v u Q a b q => .inl ⟨i, j, a.getI, b.getI, q _ H (Same.refl H) (.int _)⟩
theorem sz_line {n : Nat} (h : n ≤ 1000) : n ≤ sizeLine := Nat.le_trans h (by decide)
theorem r_plusL {ds es : List PyData} (hl : ds.length + es.length ≤ 1000) : DR2 K (rPlus K) (.list ds) (.list es) (.list (ds ++ es)) := fun H v u Q h1 h2 q => by
  obtain ⟨a, xs, rfl, hs, hd⟩ := h1.getL
  obtain ⟨b, ys, rfl, hs2, hd2⟩ := h2.getL
  exact .inr (.inl ⟨a, b, xs, ys, rfl, rfl, hs, hs2, by rw [hd.len, hd2.len]; exact sz_line hl, fun p np => q _ _ (same_new np) (.lst (.of upd_same) (dpAll_same (same_new np) (.app hd hd2)))⟩)
theorem r_plusT {ds es : List PyData} (hl : ds.length + es.length ≤ 1000) : DR2 K (rPlus K) (.tuple ds) (.tuple es) (.tuple (ds ++ es)) := fun H v u Q h1 h2 q => by
  obtain ⟨a, o, xs, rfl, hs, n1, hd⟩ := h1.getT
  obtain ⟨b, o2, ys, rfl, hs2, n2, hd2⟩ := h2.getT
  refine .inr (.inr ⟨a, b, xs, ys, rfl, rfl, sqT_f hs, sqT_f hs2, by rw [hd.len, hd2.len]; exact sz_line hl, fun z => ?_, fun z => ?_, fun p o no np => q _ _ (same_new np) (.tup upd_same no (dpAll_same (same_new np) (.app hd hd2)))⟩)
  · subst z
    cases hd
    exact q _ H (Same.refl H) (.tup hs2 n2 hd2)
  · subst z
    cases hd2
    exact q _ H (Same.refl H) ((List.append_nil ds).symm ▸ .tup hs n1 hd)
/-! scalars, == and != -/
def scalD : PyData → Option V
  | .none => some .non
  | .bool b => some (.bl b)
  | .int i => some (.int i)
  | .str x => some (.str x)
  | _ => none
theorem scalD_of {H : Hp} {v w : V} (h : Dq K H v x) (e : scalD x = some w) : v = w := by
  cases h <;> simp [scalD] at e <;> exact e
theorem r_eq {v w : V} (hx : scalD x = some v) (hy : scalD y = some w) (hs : scal v w = true) : DR2 K rEq x y (.bool (decide (v = w))) := fun H a b Q ha hb q => by
  rw [scalD_of ha hx, scalD_of hb hy]
  exact ⟨hs, q _ H (Same.refl H) (.bl _)⟩
theorem r_ne {v w : V} (hx : scalD x = some v) (hy : scalD y = some w) (hs : scal v w = true) : DR2 K rNe x y (.bool (!decide (v = w))) := fun H a b Q ha hb q => by
  rw [scalD_of ha hx, scalD_of hb hy]
  exact ⟨hs, q _ H (Same.refl H) (.bl _)⟩
theorem r_isN {v : V} (hx : scalD x = some v) : DR2 K (fun x y H Q => y = .non ∧ Q (.bl (decide (x = .non))) H) x .none (.bool (decide (v = .non))) := fun H a b Q ha hb q => by
  rw [scalD_of ha hx]
  exact ⟨hb.getN, q _ H (Same.refl H) (.bl _)⟩
theorem r_notN {v : V} (hx : scalD x = some v) : DR2 K (fun x y H Q => y = .non ∧ Q (.bl (!decide (x = .non))) H) x .none (.bool (!decide (v = .non))) := fun H a b Q ha hb q => by
  rw [scalD_of ha hx]
  exact ⟨hb.getN, q _ H (Same.refl H) (.bl _)⟩
/-! tests -/
theorem dt_test {b : Bool} (h : DE K te ρ (.bool b)) : DT K (tTest te) ρ b := fun σ H Q e q => h σ H _ e fun v H1 s1 d1 => ⟨b, d1.getB, q H1 s1⟩
theorem dt_B {b : Bool} (h : DE K te ρ (.bool b)) : DT K (tB te) ρ b := fun σ H Q e q => h σ H _ e fun v H1 s1 d1 => ⟨b, d1.getB, q H1 s1⟩
theorem dt_and {a b : Bool} (h1 : DT K t ρ a) (h2 : a = true → DT K u ρ b) : DT K (tAnd t u) ρ (a && b) := fun σ H Q e q => h1 σ H _ e fun H1 s1 => by
  cases a with
  | true => exact iteT (h2 rfl σ H1 Q (e.same s1) fun H2 s2 => q H2 (s1.trans s2))
  | false => exact iteF (q H1 s1)
theorem dt_or {a b : Bool} (h1 : DT K t ρ a) (h2 : a = false → DT K u ρ b) : DT K (tOr t u) ρ (a || b) := fun σ H Q e q => h1 σ H _ e fun H1 s1 => by
  cases a with
  | true => exact iteT (q H1 s1)
  | false => exact iteF (h2 rfl σ H1 Q (e.same s1) fun H2 s2 => q H2 (s1.trans s2))
theorem dt_not {a : Bool} (h : DT K t ρ a) : DT K (tNot t) ρ (!a) := fun σ H Q e q => h σ H _ e fun H1 s1 => q H1 s1
theorem de_andV {a b : Bool} (h1 : DE K ta ρ (.bool a)) (h2 : a = true → DE K tb ρ (.bool b)) : DE K (tAndV ta tb) ρ (.bool (a && b)) := fun σ H Q e q => h1 σ H _ e fun v H1 s1 d1 => ⟨a, d1.getB, by
  cases a with
  | true => exact iteT (h2 rfl σ H1 Q (e.same s1) fun w H2 s2 d2 => q w H2 (s1.trans s2) d2)
  | false => exact iteF (q _ H1 s1 (.bl _))⟩
theorem de_orV {a b : Bool} (h1 : DE K ta ρ (.bool a)) (h2 : a = false → DE K tb ρ (.bool b)) : DE K (tOrV ta tb) ρ (.bool (a || b)) := fun σ H Q e q => h1 σ H _ e fun v H1 s1 d1 => ⟨a, d1.getB, by
  cases a with
  | true => exact iteT (q _ H1 s1 (.bl _))
  | false => exact iteF (h2 rfl σ H1 Q (e.same s1) fun w H2 s2 d2 => q w H2 (s1.trans s2) d2)⟩
theorem de_notV {a : Bool} (h : DE K ta ρ (.bool a)) : DE K (tNotV ta) ρ (.bool (!a)) := fun σ H Q e q => h σ H _ e fun v H1 s1 d1 => ⟨a, d1.getB, q _ H1 s1 (.bl _)⟩
theorem de_if {b : Bool} (h : DT K t ρ b) (h1 : b = true → DE K ta ρ d) (h2 : b = false → DE K tb ρ d) : DE K (tIf t ta tb) ρ d := fun σ H Q e q => h σ H _ e fun H1 s1 => by
  cases b with
  | true => exact iteT (h1 rfl σ H1 Q (e.same s1) fun w H2 s2 d2 => q w H2 (s1.trans s2) d2)
  | false => exact iteF (h2 rfl σ H1 Q (e.same s1) fun w H2 s2 d2 => q w H2 (s1.trans s2) d2)
theorem de_chain {tc : TE} {r r' : R2} {a b : Bool} (ha : DE K ta ρ x) (hb : DE K tb ρ y) (hr : DR2 K r x y (.bool a)) (hc : a = true → DE K tc ρ z) (hr' : a = true → DR2 K r' y z (.bool b)) : DE K (tChain r r' ta tb tc) ρ (.bool (a && b)) := fun σ H Q e q =>
  ha σ H _ e fun v H1 s1 d1 => hb σ H1 _ (e.same s1) fun w H2 s2 d2 => hr H2 v w _ (dp_same s2 d1) d2 fun k H3 s3 d3 => ⟨a, d3.getB, by
    cases a with
    | true => exact iteT (hc rfl σ H3 _ (e.same ((s1.trans s2).trans s3)) fun w' H4 s4 d4 => hr' rfl H4 w w' Q (dp_same (s3.trans s4) d2) d4 fun k' H5 s5 d5 => q k' H5 ((((s1.trans s2).trans s3).trans s4).trans s5) d5)
    | false => exact iteF (q _ H3 ((s1.trans s2).trans s3) (.bl _))⟩
/-! arguments, displays, calls -/
theorem da_nil : DA K tNil ρ [] := fun σ H Q e q => q [] H (Same.refl H) .nil
theorem da_cons {tr : TA} {ds : List PyData} (h : DE K ta ρ x) (hr : DA K tr ρ ds) : DA K (tCons ta tr) ρ (x :: ds) := fun σ H Q e q =>
  h σ H _ e fun v H1 s1 d1 => hr σ H1 _ (e.same s1) fun vs H2 s2 d2 => q _ H2 (s1.trans s2) (.cons (dp_same s2 d1) d2)
theorem de_tup {tr : TA} {ds : List PyData} (h : DA K tr ρ ds) (hl : ds.length ≤ 1000) : DE K (tTupF tr) ρ (.tuple ds) := fun σ H Q e q =>
  h σ H _ e fun vs H1 s1 d1 => ⟨by rw [d1.len]; exact sz_line hl, fun p o no np => q _ _ (s1.trans (same_new np)) (.tup upd_same no (dpAll_same (same_new np) d1))⟩
theorem de_lst {tr : TA} {ds : List PyData} (h : DA K tr ρ ds) (hl : ds.length ≤ 1000) : DE K (tLst tr) ρ (.list ds) := fun σ H Q e q =>
  h σ H _ e fun vs H1 s1 d1 => ⟨by rw [d1.len]; exact sz_line hl, fun p np => q _ _ (s1.trans (same_new np)) (.lst (.of upd_same) (dpAll_same (same_new np) d1))⟩
theorem de_cb {r : List V → Hp → VK → Prop} {tr : TA} {ds : List PyData} (h : DA K tr ρ ds) (hr : DC K r ds z) : DE K (tCB r tr) ρ z := fun σ H Q e q =>
  h σ H _ e fun vs H1 s1 d1 => hr H1 vs Q d1 fun w H2 s2 d2 => q w H2 (s1.trans s2) d2
/-- the promise of a def that changes nothing: from these data to this one -/
def spF (K : PySem.W.Frag) (F : List PyData → PyData → Prop) : Sp := fun vs H Q _ => ∃ ds r, DqAll K H vs ds ∧ F ds r ∧ ∀ v H', Same H H' → Dq K H' v r → Q v H'
theorem de_call {F : List PyData → PyData → Prop} {E : XK} {tr : TA} {ds : List PyData} (h : DA K tr ρ ds) (hF : F ds z) : DE K (tCall (spF K F) [] E tr) ρ z := fun σ H Q e q =>
  h σ H _ e fun vs H1 s1 d1 => ⟨ds, z, by rw [List.append_nil]; exact d1, hF, fun v H2 s2 d2 => q v H2 (s1.trans s2) d2⟩
/-! built-in calls -/
theorem seq_of {H : Hp} {v : V} {ds : List PyData} (h : Dq K H v x) (hi : itemsD x = some ds) : ∃ p xs, v = .ref p ∧ (SqL K H p xs ∨ SqT K H p xs) ∧ DqAll K H xs ds := by
  cases x with
  | list es =>
    cases hi
    obtain ⟨p, xs, rfl, hs, hd⟩ := Dq.getL h
    exact ⟨p, xs, rfl, .inl hs, hd⟩
  | tuple es =>
    cases hi
    obtain ⟨p, o, xs, rfl, hs, _, hd⟩ := Dq.getT h
    exact ⟨p, xs, rfl, .inr (sqT_f hs), hd⟩
  | _ => cases hi
theorem c_len {ds : List PyData} (hi : itemsD x = some ds) : DC K (fun xs H Q => ∃ p ys, xs = [.ref p] ∧ (SqL K H p ys ∨ SqT K H p ys) ∧ Q (.int ys.length) H) [x] (.int (ds.length : Nat)) := fun H vs Q h q => by
  cases h with
  | cons h t =>
    cases t
    obtain ⟨p, xs, rfl, hs, hd⟩ := seq_of h hi
    refine ⟨p, xs, rfl, hs, ?_⟩
    rw [hd.len]
    exact q _ H (Same.refl H) (.int _)
theorem c_list {ds : List PyData} (hi : itemsD x = some ds) : DC K (fun xs H Q => ∃ p ys, xs = [.ref p] ∧ (SqL K H p ys ∨ SqT K H p ys) ∧ ∀ l, H l = none → Q (.ref l) (upd H l (.lst ys))) [x] (.list ds) := fun H vs Q h q => by
  cases h with
  | cons h t =>
    cases t
    obtain ⟨p, xs, rfl, hs, hd⟩ := seq_of h hi
    exact ⟨p, xs, rfl, hs, fun l nl => q _ _ (same_new nl) (.lst (.of upd_same) (dpAll_same (same_new nl) hd))⟩
theorem c_tuple {ds : List PyData} : DC K (rTupF K) [.list ds] (.tuple ds) := fun H vs Q h q => by
  cases h with
  | cons h t =>
    cases t
    obtain ⟨p, xs, rfl, hs, hd⟩ := Dq.getL h
    exact ⟨p, xs, rfl, hs, fun l o no nl => q _ _ (same_new nl) (.tup upd_same no (dpAll_same (same_new nl) hd))⟩
theorem c_all {bs : List Bool} : DC K (rAll K) [.list (bs.map .bool)] (.bool (bs.all id)) := fun H vs Q h q => by
  cases h with
  | cons h t =>
    cases t
    obtain ⟨p, xs, rfl, hs, hd⟩ := Dq.getL h
    have e := hd.bools
    subst e
    exact ⟨p, bs, rfl, hs, q _ H (Same.refl H) (.bl _)⟩
theorem c_any {bs : List Bool} : DC K (rAny K) [.list (bs.map .bool)] (.bool (bs.any id)) := fun H vs Q h q => by
  cases h with
  | cons h t =>
    cases t
    obtain ⟨p, xs, rfl, hs, hd⟩ := Dq.getL h
    have e := hd.bools
    subst e
    exact ⟨p, bs, rfl, hs, q _ H (Same.refl H) (.bl _)⟩
end
end K3
set_option Elab.async false
set_option linter.all false
set_option maxRecDepth 100000
set_option maxHeartbeats 4000000
/-! Loops, comprehensions, targets, blocks, slices, sorted: on data. -/
namespace K3
open PySem PySem.Spec PyProof.Rows L2

/-! ### data made of tuples and scalars alone: no write touches them -/
mutual
def frz : PyData → Bool
  | .none => true
  | .bool _ => true
  | .int _ => true
  | .str _ => true
  | .list _ => false
  | .tuple xs => frzAll xs
  | .dict _ => false
def frzAll : List PyData → Bool
  | [] => true
  | x :: xs => frz x && frzAll xs
end
/-- tuples and locked things stay as they are -/
def SameT (H H' : Hp) : Prop := (∀ b xs, H b = some (.tup xs) → H' b = some (.tup xs)) ∧ ∀ b o u, H b = some (.frz o u) → H' b = some (.frz o u)
theorem SameT.refl (H : Hp) : SameT H H := ⟨fun _ _ h => h, fun _ _ _ h => h⟩
theorem SameT.trans {H H1 H2 : Hp} (a : SameT H H1) (b : SameT H1 H2) : SameT H H2 := ⟨fun c xs h => b.1 c xs (a.1 c xs h), fun c o u h => b.2 c o u (a.2 c o u h)⟩
theorem SameT.of {H H' : Hp} (a : Same H H') : SameT H H' := ⟨fun c xs h => a c _ h, fun c o u h => a c _ h⟩
theorem SameT.wr {H : Hp} {p : Addr} {o u : HO} (h : H p = some o) (h1 : ∀ xs, o ≠ .tup xs) (h2 : ∀ x y, o ≠ .frz x y) : SameT H (upd H p u) := by
  refine ⟨fun b xs e => ?_, fun b x y e => ?_⟩
  · rw [upd_ne fun z => ?_]
    · exact e
    · rw [z, h] at e
      exact h1 _ (Option.some.inj e)
  · rw [upd_ne fun z => ?_]
    · exact e
    · rw [z, h] at e
      exact h2 _ _ (Option.some.inj e)
section
variable {K : PySem.W.Frag} {H H' : Hp}
mutual
theorem dp_st (e : SameT H H') : ∀ {v : V} {d : PyData}, Dq K H v d → frz d = true → Dq K H' v d
  | _, _, .non, _ => .non
  | _, _, .bl b, _ => .bl b
  | _, _, .int i, _ => .int i
  | _, _, .str x, _ => .str x
  | _, _, .lst h t, k => by simp [frz] at k
  | _, _, .tup h n t, k => .tup (e.2 _ _ _ h) n (dpAll_st e t (by simpa [frz] using k))
theorem dpAll_st (e : SameT H H') : ∀ {vs : List V} {ds : List PyData}, DqAll K H vs ds → frzAll ds = true → DqAll K H' vs ds
  | _, _, .nil, _ => .nil
  | _, _, .cons h t, k => by
    have k' := Bool.and_eq_true_iff.mp (show (frz _ && frzAll _) = true from k)
    exact .cons (dp_st e h k'.1) (dpAll_st e t k'.2)
end
end
theorem frzAll_map {α : Type} (f : α → PyData) (h : ∀ a, frz (f a) = true) : ∀ l : List α, frzAll (l.map f) = true
  | [] => rfl
  | a :: r => by
    show (frz (f a) && frzAll (r.map f)) = true
    rw [h a, frzAll_map f h r]
    rfl
theorem frzAll_app : ∀ (l m : List PyData), frzAll l = true → frzAll m = true → frzAll (l ++ m) = true
  | [], m, _, h => h
  | a :: r, m, k, h => by
    have k' := Bool.and_eq_true_iff.mp (show (frz a && frzAll r) = true from k)
    show (frz a && frzAll (r ++ m)) = true
    rw [k'.1, frzAll_app r m k'.2 h]
    rfl
theorem frzAll_of {l : List PyData} (h : ∀ d ∈ l, frz d = true) : frzAll l = true := by
  induction l with
  | nil => rfl
  | cons a r ih =>
    show (frz a && frzAll r) = true
    rw [h a List.mem_cons_self, ih fun d m => h d (List.mem_cons_of_mem _ m)]
    rfl

/-! ### wiping -/
theorem wipe_get (σ : L2.St) (i : Nat) : ∀ vs : List Nat, (wipe σ vs)[i]? = if i ∈ vs ∧ i < σ.length then some none else σ[i]?
  | [] => by
    rw [if_neg (by simp)]
    rfl
  | v :: vs => by
    show ((wipe σ vs).set v none)[i]? = _
    rw [List.getElem?_set, wipe_get σ i vs, wipe_length]
    by_cases e : v = i
    · subst e
      rw [if_pos rfl]
      by_cases l : v < σ.length
      · rw [if_pos l, if_pos ⟨List.mem_cons_self, l⟩]
      · rw [if_neg l, if_neg fun z => l z.2]
        rw [List.getElem?_eq_none (by omega)]
    · rw [if_neg e]
      by_cases l : i ∈ vs ∧ i < σ.length
      · rw [if_pos l, if_pos ⟨List.mem_cons_of_mem _ l.1, l.2⟩]
      · rw [if_neg l, if_neg fun z => l ⟨(List.mem_cons.mp z.1).resolve_left fun q => e q.symm, z.2⟩]
theorem wipe_wipe (σ : L2.St) (vs : List Nat) : wipe (wipe σ vs) vs = wipe σ vs := by
  refine List.ext_getElem? fun i => ?_
  rw [wipe_get, wipe_get, wipe_length]
  split
  · rfl
  · rfl
theorem wipe_set {σ : L2.St} {vs : List Nat} {i : Nat} {o : Option V} (h : i ∈ vs) : wipe (σ.set i o) vs = wipe σ vs := by
  refine List.ext_getElem? fun j => ?_
  rw [wipe_get, wipe_get, List.length_set, List.getElem?_set]
  by_cases l : j ∈ vs ∧ j < σ.length
  · rw [if_pos l, if_pos l]
  · rw [if_neg l, if_neg l]
    by_cases e : i = j
    · subst e
      rw [if_pos rfl]
      have l' : ¬ i < σ.length := fun z => l ⟨h, z⟩
      rw [if_neg l', List.getElem?_eq_none (by omega)]
    · rw [if_neg e]

section
variable {K : PySem.W.Frag} {ρ ρ1 ρ' ρ2 : Rho} {ta tb te tl : TE} {t u : TT} {x y z d : PyData} {r : R2} {vs : List Nat} {g : TG} {wi : TI} {ts tu : TS} {P : Hp → V → PyData → Prop}
/-! ### targets -/
/-- a pair as enumerate and zip hand it out: the tuple itself may be any -/
def Pq (K : PySem.W.Frag) (H : Hp) (v : V) (d : PyData) : Prop := ∃ a v1 v2 x y, v = .ref a ∧ SqT K H a [v1, v2] ∧ d = .tuple [x, y] ∧ Dq K H v1 x ∧ Dq K H v2 y
theorem dg_name {i : Nat} (hi : i ∈ vs) : DG K (Dq K) vs (gName i) d ρ (ρ.set i (.d d)) := fun v σ H Q hv e q => q _ H (Same.refl H) (e.set i ⟨v, rfl, hv⟩) (wipe_set hi)
theorem dg_pair {i j : Nat} (hi : i ∈ vs) (hj : j ∈ vs) : DG K (Pq K) vs (gTup K 2 (gCons (gName i) (gCons (gName j) gNil))) (.tuple [x, y]) ρ ((ρ.set i (.d x)).set j (.d y)) := fun v σ H Q hv e q => by
  obtain ⟨a, v1, v2, x', y', rfl, hs, ed, h1, h2⟩ := hv
  cases ed
  refine ⟨a, _, rfl, hs, rfl, _, _, rfl, _, _, rfl, rfl, q _ H (Same.refl H) ((e.set i (s := .d x) ⟨_, rfl, h1⟩).set j (s := .d y) ⟨_, rfl, h2⟩) ?_⟩
  rw [wipe_set hj, wipe_set hi]
theorem dg_tup2 {i j : Nat} (hi : i ∈ vs) (hj : j ∈ vs) : DG K (Dq K) vs (gTup K 2 (gCons (gName i) (gCons (gName j) gNil))) (.tuple [x, y]) ρ ((ρ.set i (.d x)).set j (.d y)) := fun v σ H Q hv e q => by
  obtain ⟨a, o, xs, rfl, hs, _, hd⟩ := hv.getT
  cases hd with
  | cons h1 t =>
    cases t with
    | cons h2 t =>
      cases t
      exact dg_pair hi hj _ σ H Q ⟨a, _, _, x, y, rfl, sqT_f hs, rfl, h1, h2⟩ e q

/-! ### walks -/
theorem di_seq {ds : List PyData} (h : DE K tl ρ x) (hx : itemsD x = some ds) : DI K (Dq K) (iSeq K tl) ρ ds := fun σ H R e q => by
  cases x with
  | list es =>
    cases hx
    refine .inl (h σ H _ e fun v H1 s1 d1 => ?_)
    obtain ⟨a, xs, rfl, hs, hd⟩ := d1.getL
    refine ⟨a, rfl, ⟨xs, hs⟩, q _ H1 s1 ⟨fun i H2 s2 hi => ?_, fun H2 s2 => ⟨xs, s2.seq hs, by rw [hd.len]; exact Nat.le_refl _⟩, fun i H2 x H3 d s2 hi hy => ?_⟩⟩
    · obtain ⟨w, hw, _⟩ := hd.at_ (List.getElem?_eq_getElem hi)
      exact ⟨xs, w, s2.seq hs, hw⟩
    · obtain ⟨rfl, f⟩ := hy
      obtain ⟨w, hw, k⟩ := hd.at_ hi
      have ew : x = w := Option.some.inj ((f _ (s2.seq hs)).symm.trans hw)
      rw [ew]
      exact ⟨Same.refl _, dp_same s2 k⟩
  | tuple es =>
    cases hx
    refine .inr (h σ H _ e fun v H1 s1 d1 => ?_)
    obtain ⟨a, o, xs, rfl, hs, _, hd⟩ := d1.getT
    refine ⟨a, rfl, ⟨xs, sqT_f hs⟩, q _ H1 s1 ⟨fun i H2 s2 hi => ?_, fun H2 s2 => ⟨xs, sqT_f (s2 _ _ hs), by rw [hd.len]; exact Nat.le_refl _⟩, fun i H2 x H3 d s2 hi hy => ?_⟩⟩
    · obtain ⟨w, hw, _⟩ := hd.at_ (List.getElem?_eq_getElem hi)
      exact ⟨xs, w, sqT_f (s2 _ _ hs), hw⟩
    · obtain ⟨rfl, f⟩ := hy
      obtain ⟨w, hw, k⟩ := hd.at_ hi
      have ew : x = w := Option.some.inj ((f _ (sqT_f (s2 _ _ hs))).symm.trans hw)
      rw [ew]
      exact ⟨Same.refl _, dp_same s2 k⟩
  | _ => cases hx
/-- the items with their numbers -/
def numD (ds : List PyData) : List PyData := List.zipWith (fun (i : Nat) d => PyData.tuple [.int (i : Int), d]) (List.range ds.length) ds
theorem numD_at {ds : List PyData} {i : Nat} {d : PyData} (h : (numD ds)[i]? = some d) : ∃ x, ds[i]? = some x ∧ d = .tuple [.int (i : Int), x] := by
  unfold numD at h
  rw [List.getElem?_zipWith] at h
  by_cases hi : i < ds.length
  · rw [List.getElem?_range hi, List.getElem?_eq_getElem hi] at h
    exact ⟨ds[i], List.getElem?_eq_getElem hi, (Option.some.inj h).symm⟩
  · rw [List.getElem?_eq_none (l := ds) (by omega)] at h
    cases q : (List.range ds.length)[i]? <;> rw [q] at h <;> cases h
theorem numD_len (ds : List PyData) : (numD ds).length = ds.length := by
  unfold numD
  rw [List.length_zipWith, List.length_range, Nat.min_self]
theorem di_enum {ta : TA} {ds : List PyData} (h : DA K ta ρ [.tuple ds]) : DI K (Pq K) (iEnumT K ta) ρ (numD ds) := fun σ H R e q => h σ H _ e fun vs H1 s1 d1 => by
  cases d1 with
  | cons h t =>
    cases t
    obtain ⟨a, o, xs, rfl, hs, _, hd⟩ := Dq.getT h
    refine ⟨a, xs, rfl, sqT_f hs, q _ H1 s1 ⟨fun i H2 s2 hi => ?_, fun H2 s2 => ⟨xs, sqT_f (s2 _ _ hs), by rw [hd.len, numD_len]; exact Nat.le_refl _⟩, fun i H2 x H3 d s2 hi hy => ?_⟩⟩
    · rw [numD_len] at hi
      obtain ⟨w, hw, _⟩ := hd.at_ (List.getElem?_eq_getElem hi)
      exact ⟨xs, w, sqT_f (s2 _ _ hs), hw⟩
    · obtain ⟨T, y, rfl, nT, rfl, f⟩ := hy
      obtain ⟨z, hz, rfl⟩ := numD_at hi
      obtain ⟨w, hw, k⟩ := hd.at_ hz
      have ew : y = w := Option.some.inj ((f _ (sqT_f (s2 _ _ hs))).symm.trans hw)
      subst ew
      exact ⟨same_new nT, T, _, _, _, _, rfl, .of upd_same, rfl, .int _, dp_same (s2.trans (same_new nT)) k⟩
/-- range(n) -/
def rgD (n : Nat) : List Int := (List.range n).map fun (i : Nat) => (i : Int)
theorem rgD_len (n : Nat) : (rgD n).length = n := by
  unfold rgD
  rw [List.length_map, List.length_range]
theorem rgD_at {n i : Nat} {j : Int} (h : (rgD n)[i]? = some j) : j = (i : Int) ∧ i < n := by
  have hi := (List.getElem?_eq_some_iff.mp h).1
  rw [rgD_len] at hi
  unfold rgD at h
  rw [List.getElem?_map, List.getElem?_range hi] at h
  exact ⟨(Option.some.inj h).symm, hi⟩
theorem rgD_mem {n : Nat} {j : Int} (h : j ∈ rgD n) : ∃ i : Nat, j = (i : Int) ∧ i < n := by
  obtain ⟨i, hi⟩ := List.mem_iff_getElem?.mp h
  exact ⟨i, rgD_at hi⟩
theorem di_range {ta : TA} {n : Nat} (h : DA K ta ρ [.int (n : Int)]) (hn : n ≤ 1000) : DI K (Dq K) (iRng1 ta) ρ ((rgD n).map .int) := fun σ H R e q => h σ H _ e fun vs H1 s1 d1 => by
  cases d1 with
  | cons h t =>
    cases t
    cases h
    have hn1 : ((n : Int)) < 2 ^ 62 := by
      have : (n : Int) ≤ 1000 := by omega
      exact Int.lt_of_le_of_lt this (by decide)
    refine ⟨(n : Int), rfl, by omega, hn1, q _ H1 s1 ⟨fun i H2 s2 hi => ?_, fun H2 s2 => ?_, fun i H2 x H3 d s2 hi hy => ?_⟩⟩
    · rw [List.length_map, rgD_len] at hi
      show i < ((n : Int)).toNat
      omega
    · show ((n : Int)).toNat ≤ _
      rw [List.length_map, rgD_len]
      omega
    · obtain ⟨rfl, rfl⟩ := hy
      rw [List.getElem?_map] at hi
      obtain ⟨j, hj, ej⟩ := Option.map_eq_some_iff.mp hi
      obtain ⟨e1, _⟩ := rgD_at hj
      subst ej
      rw [e1, Int.zero_add]
      exact ⟨Same.refl _, .int _⟩
/-- zip of two tuples, two lists -/
theorem di_zip {tA : TA} {ds es : List PyData} (h : DA K tA ρ [x, y]) (hb : (x = .tuple ds ∧ y = .tuple es) ∨ (x = .list ds ∧ y = .list es)) : DI K (Pq K) (RZ.iZipA K tA) ρ (List.zipWith (fun x y => .tuple [x, y]) ds es) := fun σ H R e q => h σ H _ e fun vs H1 s1 d1 => by
  have key : ∀ {xs ys : List V} {H2 H3 : Hp} {i : Nat} {d : PyData} {v : V}, DqAll K H1 xs ds → DqAll K H1 ys es → Same H1 H2 → (List.zipWith (fun x y => PyData.tuple [x, y]) ds es)[i]? = some d →
      (∃ T x y, v = .ref T ∧ H2 T = none ∧ H3 = upd H2 T (.tup [x, y]) ∧ xs[i]? = some x ∧ ys[i]? = some y) → Same H2 H3 ∧ Pq K H3 v d := by
    intro xs ys H2 H3 i d v hx hy s2 hi hv
    obtain ⟨T, x, y, rfl, nT, rfl, f1, f2⟩ := hv
    obtain ⟨d1, e1, k1⟩ := hx.back f1
    obtain ⟨d2, e2, k2⟩ := hy.back f2
    rw [List.getElem?_zipWith, e1, e2] at hi
    cases hi
    exact ⟨same_new nT, T, _, _, _, _, rfl, .of upd_same, rfl, dp_same (s2.trans (same_new nT)) k1, dp_same (s2.trans (same_new nT)) k2⟩
  rcases hb with ⟨rfl, rfl⟩ | ⟨rfl, rfl⟩
  · cases d1 with
    | cons ha t =>
      cases t with
      | cons hb t =>
        cases t
        obtain ⟨a, _, xs, rfl, hs', _, hd⟩ := Dq.getT ha
        obtain ⟨b, _, ys, rfl, hs2', _, hd2⟩ := Dq.getT hb
        have hs := sqT_f (K := K) hs'
        have hs2 := sqT_f (K := K) hs2'
        have g1 : ∀ {H2}, Same H1 H2 → SqT K H2 a xs := fun s2 => sqT_f (s2 _ _ hs')
        have g2 : ∀ {H2}, Same H1 H2 → SqT K H2 b ys := fun s2 => sqT_f (s2 _ _ hs2')
        refine ⟨a, b, xs, ys, rfl, .inr ⟨hs, hs2, q _ H1 s1 ⟨fun i H2 s2 hi => ?_, fun H2 s2 => ?_, fun i H2 x H3 d s2 hi hy => ?_⟩⟩⟩
        · rw [List.length_zipWith] at hi
          obtain ⟨w, hw, _⟩ := hd.at_ (List.getElem?_eq_getElem (show i < ds.length by omega))
          obtain ⟨w2, hw2, _⟩ := hd2.at_ (List.getElem?_eq_getElem (show i < es.length by omega))
          exact ⟨xs, ys, w, w2, g1 s2, g2 s2, hw, hw2⟩
        · refine ⟨xs, ys, g1 s2, g2 s2, ?_⟩
          rw [hd.len, hd2.len, List.length_zipWith]
          omega
        · obtain ⟨T, x1, y1, h1, h2, h3, h4, h5⟩ := hy
          exact key hd hd2 s2 hi ⟨T, x1, y1, h1, h2, h3, h4 _ (g1 s2), h5 _ (g2 s2)⟩
  · cases d1 with
    | cons ha t =>
      cases t with
      | cons hb t =>
        cases t
        obtain ⟨a, xs, rfl, hs, hd⟩ := Dq.getL ha
        obtain ⟨b, ys, rfl, hs2, hd2⟩ := Dq.getL hb
        refine ⟨a, b, xs, ys, rfl, .inl ⟨hs, hs2, q _ H1 s1 ⟨fun i H2 s2 hi => ?_, fun H2 s2 => ?_, fun i H2 x H3 d s2 hi hy => ?_⟩⟩⟩
        · rw [List.length_zipWith] at hi
          obtain ⟨w, hw, _⟩ := hd.at_ (List.getElem?_eq_getElem (show i < ds.length by omega))
          obtain ⟨w2, hw2, _⟩ := hd2.at_ (List.getElem?_eq_getElem (show i < es.length by omega))
          exact ⟨xs, ys, w, w2, s2.seq hs, s2.seq hs2, hw, hw2⟩
        · refine ⟨xs, ys, s2.seq hs, s2.seq hs2, ?_⟩
          rw [hd.len, hd2.len, List.length_zipWith]
          omega
        · obtain ⟨T, x1, y1, h1, h2, h3, h4, h5⟩ := hy
          exact key hd hd2 s2 hi ⟨T, x1, y1, h1, h2, h3, h4 _ (s2.seq hs), h5 _ (s2.seq hs2)⟩

/-! ### comprehensions -/
theorem de_lc {α : Type} {items : List α} {enc : α → PyData} (ρ1 : α → Rho) (p : α → Bool) (f : α → PyData) (hi : DI K P wi ρ (items.map enc)) (hz : items.length ≤ 1000)
    (hg : ∀ a ∈ items, DG K P vs g (enc a) (wipeR ρ vs) (ρ1 a)) (ht : ∀ a ∈ items, DT K t (ρ1 a) (p a)) (he : ∀ a ∈ items, p a = true → DE K te (ρ1 a) (f a)) (hf : ∀ a, frz (f a) = true) :
    DE K (tLc wi g t te vs) ρ (.list ((items.filter p).map f)) := fun σ H Q e q => hi σ H _ e fun J H1 s1 wk D nD => by
  have wl : (items.map enc).length = items.length := List.length_map ..
  refine ⟨fun i m H' => m = items.length - i ∧ i ≤ items.length ∧ Same H1 H' ∧ ∃ acc, H' D = some (.lst acc) ∧ DqAll K H' acc (((items.take i).filter p).map f),
    ⟨items.length, by omega, Nat.zero_le _, same_new nD, [], upd_same, .nil⟩, ?_⟩
  rintro i m H' ⟨rfl, hi', sm, acc, hD, hacc⟩
  by_cases hlt : i < items.length
  · refine .inr ⟨wk.goes i H' sm (by rw [wl]; exact hlt), fun H'' => Same H1 H'' ∧ ∃ acc, H'' D = some (.lst acc) ∧ DqAll K H'' acc (((items.take (i + 1)).filter p).map f),
      fun H'' n => ⟨items.length - (i + 1), by omega, rfl, hlt, n⟩, fun x H2 hy => ?_⟩
    have ha := List.getElem?_eq_getElem hlt
    have hm : items[i] ∈ items := List.getElem_mem hlt
    obtain ⟨s2, dx⟩ := wk.yields i H' x H2 (enc items[i]) sm (by rw [List.getElem?_map, ha]; rfl) hy
    have stk : items.take (i + 1) = items.take i ++ [items[i]] := by rw [List.take_add_one, ha]; rfl
    refine hg _ hm x (wipe σ vs) H2 _ dx ((e.same (s1.trans (sm.trans s2))).wipe vs) fun σ' H3 s3 e3 hw => ⟨by rw [hw, wipe_wipe], ht _ hm σ' H3 _ e3 fun H4 s4 => ?_⟩
    have s14 : Same H' H4 := s2.trans (s3.trans s4)
    cases hp : p items[i] with
    | false =>
      refine iteF ⟨sm.trans s14, acc, s14 _ _ hD, ?_⟩
      rw [stk, List.filter_append, List.filter_cons, hp]
      show DqAll K H4 acc ((List.filter p (items.take i) ++ []).map f)
      rw [List.append_nil]
      exact dpAll_same s14 hacc
    | true =>
      refine iteT (he _ hm hp σ' H4 _ (e3.same s4) fun y H5 s5 dy => ?_)
      have s15 : Same H' H5 := s14.trans s5
      have hl : acc.length < sizeLine := by
        rw [hacc.len, List.length_map]
        refine Nat.lt_of_le_of_lt (List.length_filter_le _ _) ?_
        rw [List.length_take]
        exact Nat.lt_of_le_of_lt (Nat.le_trans (Nat.min_le_right _ _) hz) (by decide)
      have st : SameT H5 (upd H5 D (.lst (acc ++ [y]))) := .wr (s15 _ _ hD) (by intro _ z; cases z) (by intro _ _ z; cases z)
      refine ⟨acc, s15 _ _ hD, hl, same_mut (sm.trans s15) nD, acc ++ [y], upd_same, ?_⟩
      rw [stk, List.filter_append, List.filter_cons, hp]
      show DqAll K _ _ ((List.filter p (items.take i) ++ [items[i]]).map f)
      rw [List.map_append]
      exact .app (dpAll_st st (dpAll_same s15 hacc) (frzAll_map f hf _)) (.cons (dp_st st dy (hf _)) .nil)
  · have ei : i = items.length := by omega
    subst ei
    refine .inl ⟨wl ▸ wk.stops H' sm, q _ H' (s1.trans sm) (.lst (.of hD) ?_)⟩
    rw [List.take_length] at hacc
    exact hacc
/-- without tests -/
theorem de_map {α : Type} {items : List α} {enc : α → PyData} (ρ1 : α → Rho) (f : α → PyData) (hi : DI K P wi ρ (items.map enc)) (hz : items.length ≤ 1000)
    (hg : ∀ a ∈ items, DG K P vs g (enc a) (wipeR ρ vs) (ρ1 a)) (he : ∀ a ∈ items, DE K te (ρ1 a) (f a)) (hf : ∀ a, frz (f a) = true) : DE K (tLc wi g tYes te vs) ρ (.list (items.map f)) := by
  have h := de_lc (K := K) (t := tYes) (te := te) ρ1 (fun _ => true) f hi hz hg (fun a _ σ H Q e q => q H (Same.refl H)) (fun a m _ => he a m) hf
  rw [List.filter_eq_self.mpr fun _ _ => rfl] at h
  exact h

/-! ### blocks -/
theorem DR.is {d' : PyData} (h : DR K ts ρ d) (e : d = d') : DR K ts ρ d' := e ▸ h
theorem dn_next : DN K tNext ρ ρ := fun D σ H e q => q σ H (Same.refl H) e
theorem dn_seq (h1 : DN K ts ρ ρ1) (h2 : DN K tu ρ1 ρ2) : DN K (tSeq ts tu) ρ ρ2 := fun D σ H e q => h1 { D with nx := tu D } σ H e fun σ' H1 s1 e1 => h2 D σ' H1 e1 fun σ'' H2 s2 e2 => q σ'' H2 (s1.trans s2) e2
theorem dr_seq (h1 : DN K ts ρ ρ1) (h2 : DR K tu ρ1 d) : DR K (tSeq ts tu) ρ d := fun D σ H e q => h1 { D with nx := tu D } σ H e fun σ' H1 s1 e1 => h2 D σ' H1 e1 fun v H2 s2 d2 => q v H2 (s1.trans s2) d2
theorem dr_first (h1 : DR K ts ρ d) : DR K (tSeq ts tu) ρ d := fun D σ H e q => h1 { D with nx := tu D } σ H e q
theorem dn_asg (h : DE K te ρ d) (hg : DG K (Dq K) vs g d ρ ρ') : DN K (tAsg te g) ρ ρ' := fun D σ H e q => h σ H _ e fun v H1 s1 d1 => hg v σ H1 _ d1 (e.same s1) fun σ' H2 s2 e2 _ => q σ' H2 (s1.trans s2) e2
theorem dn_set {i : Nat} (h : DE K te ρ d) : DN K (tAsg te (gName i)) ρ (ρ.set i (.d d)) := dn_asg h (dg_name (vs := [i]) (List.mem_singleton.mpr rfl))
theorem dn_par {i j : Nat} {tA : TA} (h : DA K tA ρ [x, y]) : DN K (tPar i j tA) ρ ((ρ.set i (.d x)).set j (.d y)) := fun D σ H e q => h σ H _ e fun vs H1 s1 d1 => by
  cases d1 with
  | cons h1 t =>
    cases t with
    | cons h2 t =>
      cases t
      exact ⟨_, _, rfl, q _ H1 s1 (((e.same s1).set i (s := .d x) ⟨_, rfl, h1⟩).set j (s := .d y) ⟨_, rfl, h2⟩)⟩
theorem dn_drop (h : DE K te ρ d) : DN K (tDrop te) ρ ρ := fun D σ H e q => h σ H _ e fun v H1 s1 _ => q σ H1 s1 (e.same s1)
theorem dr_ret (h : DE K te ρ d) : DR K (tRet te) ρ d := fun D σ H e q => h σ H _ e q
theorem dn_if {b : Bool} (h : DT K t ρ b) (h1 : b = true → DN K ts ρ ρ') (h2 : b = false → DN K tu ρ ρ') : DN K (tIfS t ts tu) ρ ρ' := fun D σ H e q => h σ H _ e fun H1 s1 => by
  cases b with
  | true => exact iteT (h1 rfl D σ H1 (e.same s1) fun σ' H2 s2 e2 => q σ' H2 (s1.trans s2) e2)
  | false => exact iteF (h2 rfl D σ H1 (e.same s1) fun σ' H2 s2 e2 => q σ' H2 (s1.trans s2) e2)
theorem dr_if {b : Bool} (h : DT K t ρ b) (h1 : b = true → DR K ts ρ d) (h2 : b = false → DR K tu ρ d) : DR K (tIfS t ts tu) ρ d := fun D σ H e q => h σ H _ e fun H1 s1 => by
  cases b with
  | true => exact iteT (h1 rfl D σ H1 (e.same s1) fun v H2 s2 d2 => q v H2 (s1.trans s2) d2)
  | false => exact iteF (h2 rfl D σ H1 (e.same s1) fun v H2 s2 d2 => q v H2 (s1.trans s2) d2)
/-- a slot no longer spoken of -/
theorem EnvD.forget {σ : L2.St} {H : Hp} (h : EnvD K H σ ρ) (i : Nat) : EnvD K H σ (ρ.set i .no) := by
  refine ⟨by rw [List.length_set, h.len], fun j o s a b => ?_⟩
  rw [List.getElem?_set] at b
  by_cases e : i = j
  · rw [if_pos e] at b
    by_cases l : i < ρ.length
    · rw [if_pos l] at b
      cases b
      trivial
    · rw [if_neg l] at b
      cases b
  · rw [if_neg e] at b
    exact h.at_ j o s a b
theorem dn_forget (i : Nat) (h : DN K ts ρ ρ') : DN K ts ρ (ρ'.set i .no) := fun D σ H e q => h D σ H e fun σ' H' s' e' => q σ' H' s' (e'.forget i)
theorem DN.is {ρ'' : Rho} (h : DN K ts ρ ρ') (e : ρ' = ρ'') : DN K ts ρ ρ'' := e ▸ h
/-- if t: return e; then the rest -/
theorem dr_guard {b : Bool} (h : DT K t ρ b) (h1 : b = true → DE K te ρ d) (h2 : b = false → DR K tu ρ d) : DR K (tSeq (tIfS t (tRet te) tNext) tu) ρ d := by
  cases b with
  | true => exact dr_first (dr_if h (fun z => dr_ret (h1 z)) fun z => by cases z)
  | false => exact dr_seq (dn_if h (fun z => by cases z) fun _ => dn_next) (h2 rfl)
/-- a test that says no, its branch never taken -/
theorem dn_skip (h : DT K t ρ false) : DN K (tIfS t ts tNext) ρ ρ := dn_if h (fun z => by cases z) fun _ => dn_next
theorem dn_for {α : Type} {items : List α} {enc : α → PyData} (Rf : Nat → Rho) (ρ1 : Nat → α → Rho) (hi : DI K P wi ρ (items.map enc)) (h0 : Rf 0 = ρ) (hg : ∀ i a, items[i]? = some a → DG K P vs g (enc a) (Rf i) (ρ1 i a))
    (hb : ∀ i a, items[i]? = some a → DN K ts (ρ1 i a) (Rf (i + 1))) (he : Rf items.length = ρ') : DN K (tFor wi g ts) ρ ρ' := fun D σ H e q => hi σ H _ e fun J H1 s1 wk => by
  have wl : (items.map enc).length = items.length := List.length_map ..
  refine ⟨fun i m σ' H' => m = items.length - i ∧ i ≤ items.length ∧ Same H1 H' ∧ EnvD K H' σ' (Rf i), ⟨items.length, by omega, Nat.zero_le _, Same.refl _, h0 ▸ e.same s1⟩, ?_⟩
  rintro i m σ' H' ⟨rfl, hi', sm, e'⟩
  by_cases hlt : i < items.length
  · refine .inr ⟨wk.goes i H' sm (by rw [wl]; exact hlt), fun σ' H'' => Same H1 H'' ∧ EnvD K H'' σ' (Rf (i + 1)), fun σ' H'' n => ⟨items.length - (i + 1), by omega, rfl, hlt, n⟩, fun x H2 hy => ?_⟩
    have ha := List.getElem?_eq_getElem hlt
    obtain ⟨s2, dx⟩ := wk.yields i H' x H2 (enc items[i]) sm (by rw [List.getElem?_map, ha]; rfl) hy
    exact hg i _ ha x σ' H2 _ dx (e'.same s2) fun σ3 H3 s3 e3 _ => hb i _ ha _ σ3 H3 e3 fun σ4 H4 s4 e4 => ⟨sm.trans (s2.trans (s3.trans s4)), e4⟩
  · have ei : i = items.length := by omega
    subst ei
    exact .inl ⟨wl ▸ wk.stops H' sm, q σ' H' (s1.trans sm) (he ▸ e')⟩

/-! ### slices -/
theorem do_none : DO K tNoPart ρ none := fun σ H Q e q => q H (Same.refl H)
theorem do_some {i : Int} (h : DE K te ρ (.int i)) : DO K (tPart te) ρ (some i) := fun σ H Q e q => h σ H _ e fun v H1 s1 d1 => ⟨i, d1.getI, q H1 s1⟩
def cutD (ds : List PyData) (lo hi : Option Int) : List PyData := (ds.drop (HT.sIx ds.length 0 lo)).take (HT.sIx ds.length ds.length hi - HT.sIx ds.length 0 lo)
theorem cutD_dp {H : Hp} {xs : List V} {ds : List PyData} (h : DqAll K H xs ds) (lo hi : Option Int) : DqAll K H (cutV xs lo hi) (cutD ds lo hi) := by
  unfold cutV cutD
  rw [h.len]
  exact (h.drp _).tak _
/-- a slice of a list or a tuple -/
def rSlU (K : PySem.W.Frag) : V → Option Int → Option Int → Hp → VK → Prop := fun x lo hi H Q => rSlL K x lo hi H Q ∨ rSlF K x lo hi H Q
theorem sl_u {X : Cx} : SlR X (rSlU X.K) := sl_seqF
def cutO (x : PyData) (lo hi : Option Int) : PyData := match x with
  | .list ds => .list (cutD ds lo hi)
  | .tuple ds => .tuple (cutD ds lo hi)
  | _ => .none
theorem de_sl {to th : TO} {ds : List PyData} {lo hi : Option Int} (h : DE K te ρ x) (hx : itemsD x = some ds) (h1 : DO K to ρ lo) (h2 : DO K th ρ hi) : DE K (tSl (rSlU K) te to th) ρ (cutO x lo hi) := fun σ H Q e q => by
  cases x with
  | list es => exact h σ H _ e fun v H1 s1 d1 => h1 σ H1 _ (e.same s1) fun H2 s2 => h2 σ H2 _ (e.same (s1.trans s2)) fun H3 s3 => .inl (by
      obtain ⟨a, xs, rfl, hs, hd⟩ := d1.getL
      exact ⟨a, xs, rfl, s3.seq (s2.seq hs), fun p np => q _ _ (((s1.trans s2).trans s3).trans (same_new np)) (.lst (.of upd_same) (cutD_dp (dpAll_same (s2.trans (s3.trans (same_new np))) hd) lo hi))⟩)
  | tuple es => exact h σ H _ e fun v H1 s1 d1 => h1 σ H1 _ (e.same s1) fun H2 s2 => h2 σ H2 _ (e.same (s1.trans s2)) fun H3 s3 => .inr (by
      obtain ⟨a, o, xs, rfl, hs, no, hd⟩ := d1.getT
      have hs3 := (s2.trans s3) _ _ hs
      refine ⟨a, xs, rfl, sqT_f hs3, fun w => ?_, fun p o' no' np => q _ _ (((s1.trans s2).trans s3).trans (same_new np)) (.tup upd_same no' (cutD_dp (dpAll_same (s2.trans (s3.trans (same_new np))) hd) lo hi))⟩
      have k : cutD es lo hi = es := by
        unfold cutD
        rw [← hd.len, w.1, w.2, List.drop_zero, Nat.sub_zero, hd.len, List.take_length]
      exact q _ H3 ((s1.trans s2).trans s3) (show Dq K H3 (.ref a) (.tuple (cutD es lo hi)) from k.symm ▸ .tup hs3 no (dpAll_same (s2.trans s3) hd)))
  | _ => cases hx
theorem cutD_take (ds : List PyData) (k : Nat) : cutD ds none (some (k : Int)) = ds.take k := by
  unfold cutD
  rw [HT.sIx_none, HT.sIx_nat, List.drop_zero, Nat.sub_zero]
  by_cases h : k ≤ ds.length
  · rw [Nat.min_eq_left h]
  · rw [Nat.min_eq_right (by omega), List.take_of_length_le (Nat.le_refl _), List.take_of_length_le (by omega)]
theorem cutD_drop (ds : List PyData) (k : Nat) : cutD ds (some (k : Int)) none = ds.drop k := by
  unfold cutD
  rw [HT.sIx_none, HT.sIx_nat]
  by_cases h : k ≤ ds.length
  · rw [Nat.min_eq_left h, List.take_of_length_le (by rw [List.length_drop]; exact Nat.le_refl _)]
  · rw [Nat.min_eq_right (by omega), List.drop_of_length_le (Nat.le_refl _), List.drop_of_length_le (by omega), List.take_nil]
theorem cutD_mid (ds : List PyData) (i j : Nat) (hj : j ≤ ds.length) : cutD ds (some (i : Int)) (some (j : Int)) = (ds.take j).drop i := by
  unfold cutD
  rw [HT.sIx_nat, HT.sIx_nat, Nat.min_eq_left hj]
  by_cases h : i ≤ j
  · rw [Nat.min_eq_left (by omega), List.take_drop]
    congr 1
    congr 1
    omega
  · rw [show j - min i ds.length = 0 by omega, List.take_zero, List.drop_of_length_le (by rw [List.length_take]; omega)]

/-! ### sorted -/
def srt (ns : List Int) : List Int := ns.mergeSort fun a b => decide (a ≤ b)
theorem srt_perm (ns : List Int) : (srt ns).Perm ns := List.mergeSort_perm ns _
theorem srt_pair (ns : List Int) : (srt ns).Pairwise (· ≤ ·) := by
  have h := List.pairwise_mergeSort (le := fun a b : Int => decide (a ≤ b)) (fun a b c h1 h2 => decide_eq_true (Int.le_trans (of_decide_eq_true h1) (of_decide_eq_true h2)))
    (fun a b => by
      rcases Int.le_total a b with h | h
      · simp [h]
      · simp [h]) ns
  exact h.imp fun h => of_decide_eq_true h
theorem perm_sorted : ∀ {l m : List Int}, l.Perm m → l.Pairwise (· ≤ ·) → m.Pairwise (· ≤ ·) → l = m
  | [], m, h, _, _ => (List.Perm.nil_eq h)
  | a :: r, [], h, _, _ => by
    have := h.length_eq
    simp at this
  | a :: r, b :: q, h, h1, h2 => by
    have ea : a = b := by
      have m1 : a ∈ b :: q := h.mem_iff.mp List.mem_cons_self
      have m2 : b ∈ a :: r := h.mem_iff.mpr List.mem_cons_self
      obtain ⟨p1, _⟩ := List.pairwise_cons.mp h1
      obtain ⟨p2, _⟩ := List.pairwise_cons.mp h2
      rcases List.mem_cons.mp m1 with e | e
      · exact e
      · rcases List.mem_cons.mp m2 with e' | e'
        · exact e'.symm
        · exact Int.le_antisymm (p1 _ e') (p2 _ e)
    subst ea
    rw [perm_sorted (List.Perm.cons_inv h) (List.pairwise_cons.mp h1).2 (List.pairwise_cons.mp h2).2]
theorem srt_eq {ns ms : List Int} (h : ns.Perm ms) (hp : ns.Pairwise (· ≤ ·)) : ns = srt ms := perm_sorted (h.trans (srt_perm ms).symm) hp (srt_pair ms)
theorem srt_len (ns : List Int) : (srt ns).length = ns.length := (srt_perm ns).length_eq
theorem c_sorted {ns : List Int} (hl : ns.length < 64) : DC K (rSorted K) [.list (ns.map .int)] (.list ((srt ns).map .int)) := fun H vs Q h q => by
  cases h with
  | cons h t =>
    cases t
    obtain ⟨p, xs, rfl, hs, hd⟩ := Dq.getL h
    have e := hd.ints
    subst e
    refine ⟨p, ns, rfl, hs, hl, fun ns' a hp hs' na => ?_⟩
    rw [srt_eq hp hs']
    exact q _ _ (same_new na) (.lst (.of upd_same) (.ofInts _))
theorem c_int {i : Int} : DC K (fun xs H Q => (∃ i, xs = [.int i] ∧ Q (.int i) H) ∨ ∃ k, xs = [.bl k] ∧ Q (.int (if k then 1 else 0)) H) [.int i] (.int i) := fun H vs Q h q => by
  cases h with
  | cons h t =>
    cases t
    cases h
    exact .inl ⟨i, rfl, q _ H (Same.refl H) (.int i)⟩
theorem c_intB {b : Bool} : DC K (fun xs H Q => (∃ i, xs = [.int i] ∧ Q (.int i) H) ∨ ∃ k, xs = [.bl k] ∧ Q (.int (if k then 1 else 0)) H) [.bool b] (.int (if b then 1 else 0)) := fun H vs Q h q => by
  cases h with
  | cons h t =>
    cases t
    cases h
    exact .inr ⟨b, rfl, q _ H (Same.refl H) (.int _)⟩
theorem c_min {i j : Int} : DC K (fun xs H Q => ∃ i j, xs = [.int i, .int j] ∧ Q (.int (if j < i then j else i)) H) [.int i, .int j] (.int (if j < i then j else i)) := fun H vs Q h q => by
  cases h with
  | cons h t =>
    cases t with
    | cons h2 t =>
      cases t
      cases h
      cases h2
      exact ⟨i, j, rfl, q _ H (Same.refl H) (.int _)⟩
/-- [x] * k -/
theorem de_rep {k : Nat} (ha : DE K ta ρ x) (hb : DE K tb ρ (.int (k : Int))) (hk : k ≤ 1) : DE K (tOp rRep (tLst (tCons ta tNil)) tb) ρ (.list (List.replicate k x)) := fun σ H Q e q =>
  ha σ H _ e fun v H1 s1 d1 => ⟨(by decide : 1 ≤ sizeLine), fun p np => hb σ _ _ (e.same (s1.trans (same_new np))) fun w H2 s2 d2 => by
    have h2 : H2 p = some (.lst [v]) := s2 _ _ upd_same
    have kk : ((k : Int)).toNat = k := by omega
    refine ⟨p, (k : Int), [v], rfl, d2.getI, h2, by omega, by omega, ?_, fun p2 np2 => q _ _ (((s1.trans (same_new np)).trans s2).trans (same_new np2)) (.lst (.of upd_same) ?_)⟩
    · rw [kk]
      show 1 * k ≤ sizeLine
      rw [Nat.one_mul]
      exact Nat.le_trans hk (by decide)
    · rw [kk]
      have d3 : Dq K (upd H2 p2 (.lst (List.replicate k [v]).flatten)) v x := dp_same (((same_new np).trans s2).trans (same_new np2)) d1
      have : k = 0 ∨ k = 1 := by omega
      rcases this with z | z
      · subst z
        exact .nil
      · subst z
        exact .cons d3 .nil⟩
theorem c_allM {α : Type} {items : List α} {g : α → Bool} : DC K (rAll K) [.list (items.map fun a => .bool (g a))] (.bool (items.all g)) := by
  have h := c_all (K := K) (bs := items.map g)
  rw [List.map_map, List.all_map] at h
  exact h
theorem c_anyM {α : Type} {items : List α} {g : α → Bool} : DC K (rAny K) [.list (items.map fun a => .bool (g a))] (.bool (items.any g)) := by
  have h := c_any (K := K) (bs := items.map g)
  rw [List.map_map, List.any_map] at h
  exact h
/-! isinstance -/
def tyD : PyData → Option String
  | .none => some "NoneType"
  | .bool _ => some "bool"
  | .int _ => some "int"
  | .str _ => some "str"
  | .tuple _ => some "tuple"
  | _ => none
theorem tyX_d {H : Hp} {v : V} (h : Dq K H v d) {T : String} (hT : tyD d = some T) : TyX K H v (.type T) := by
  cases h with
  | non => cases hT; exact .base .non
  | bl b => cases hT; exact .base (.bl b)
  | int i => cases hT; exact .base (.int i)
  | str x => cases hT; exact .base (.str x)
  | lst _ _ => cases hT
  | tup h _ _ => cases hT; exact .fTuple h
theorem de_isi (T n : String) (b : Bool) (ha : DE K ta ρ d) (hT : tyD d = some T) (hk : kitB T n = some b) :
    DE K (tCB (rIsi K) (tCons ta (tCons (tC (.ty n)) tNil))) ρ (.bool b) := fun σ H Q e q => ha σ H _ e fun v H1 s1 d1 => ⟨v, .ty n, .type T, .type n, b, rfl, .ty n, tyX_d d1 hT, kit_ty hk, q _ H1 s1 (.bl b)⟩
/-! a dict of ints in a slot -/
theorem de_din {i : Nat} {kvs : List (Key × V)} {j : Int} (ha : DE K ta ρ (.int j)) (hm : ρ[i]? = some (.m kvs)) : DE K (tDIn ta (tVar i)) ρ (.bool (valV kvs (.inl j)).isSome) := fun σ H Q e q => ha σ H _ e fun v H1 s1 d1 => by
  obtain ⟨a, ea, ha'⟩ := (e.same s1).getM hm
  refine ⟨_, ea, a, valV kvs (.inl j), rfl, ?_, q _ H1 s1 (.bl _)⟩
  rw [d1.getI]
  exact DGet.k (k := .inl j) ha'
/-- d.get(k), the dict's values data -/
theorem de_dget {i : Nat} {kvs : List (Key × V)} {j : Int} (ha : DE K ta ρ (.int j)) (hm : ρ[i]? = some (.m kvs)) (hv : ∀ H, Dq K H ((valV kvs (.inl j)).getD .non) d) : DE K (tDGet1 (tVar i) ta) ρ d := fun σ H Q e q => by
  obtain ⟨a, ea, ha'⟩ := e.getM hm
  refine ⟨_, ea, a, rfl, .inl ⟨kvs, Rd.of ha'⟩, ha σ H _ e fun v H1 s1 d1 => ⟨valV kvs (.inl j), ?_, q _ H1 s1 (hv H1)⟩⟩
  rw [d1.getI]
  exact DGet.k (k := .inl j) (s1 _ _ ha')
end
end K3
set_option Elab.async false
set_option linter.all false
set_option maxRecDepth 100000
set_option maxHeartbeats 4000000
/-! The text by places; what the module's names stand for; a def called by its promise. -/
namespace K3
open PySem PySem.Spec PyProof.Rows L2
def topS (i : Nat) : Stmt := PySem.Challenge.pw_fewindexes_k03_whole_indexes.main.body.getD i (.Pass ⟨0, 0, 0, 0⟩)
abbrev s__law_begin : Stmt := topS 40
abbrev N__law_begin : List Str := ["_law_script", "_law_cells", "_law_cell"]
theorem sc__law_begin : FnScope N__law_begin ["_law_script"] (defScope s__law_begin) := ⟨rfl, rfl, rfl, by decide +kernel, rfl, by decide +kernel, by decide +kernel⟩
abbrev s__law_mixed : Stmt := topS 39
abbrev N__law_mixed : List Str := ["_law_cell", "_law_k"]
theorem sc__law_mixed : FnScope N__law_mixed ["_law_cell", "_law_k"] (defScope s__law_mixed) := ⟨rfl, rfl, rfl, by decide +kernel, rfl, by decide +kernel, by decide +kernel⟩
abbrev s__law_draw : Stmt := topS 41
abbrev N__law_draw : List Str := ["_law_state", "_law_many", "_law_at", "_law_place", "_law_left", "_law_number"]
theorem sc__law_draw : FnScope N__law_draw ["_law_state", "_law_many"] (defScope s__law_draw) := ⟨rfl, rfl, rfl, by decide +kernel, rfl, by decide +kernel, by decide +kernel⟩
abbrev s__law_steps : Stmt := topS 51
abbrev N__law_steps : List Str := ["_law_state", "_law_columns", "_law_most", "_law_left", "_law_got", "_law_k", "_law_column"]
theorem sc__law_steps : FnScope N__law_steps ["_law_state", "_law_columns", "_law_most"] (defScope s__law_steps) := ⟨rfl, rfl, rfl, by decide +kernel, rfl, by decide +kernel, by decide +kernel⟩
abbrev s__law_index : Stmt := topS 53
abbrev N__law_index : List Str := ["_law_state", "_law_columns", "_law_got"]
theorem sc__law_index : FnScope N__law_index ["_law_state", "_law_columns"] (defScope s__law_index) := ⟨rfl, rfl, rfl, by decide +kernel, rfl, by decide +kernel, by decide +kernel⟩
abbrev s__law_lookup : Stmt := topS 52
abbrev N__law_lookup : List Str := ["_law_state", "_law_columns", "_law_equal", "_law_sort", "_law_column"]
theorem sc__law_lookup : FnScope N__law_lookup ["_law_state", "_law_columns"] (defScope s__law_lookup) := ⟨rfl, rfl, rfl, by decide +kernel, rfl, by decide +kernel, by decide +kernel⟩
abbrev s__law_turned : Stmt := topS 45
abbrev N__law_turned : List Str := ["_law_steps_here", "_law_column", "_law_way_here"]
theorem sc__law_turned : FnScope N__law_turned ["_law_steps_here"] (defScope s__law_turned) := ⟨rfl, rfl, rfl, by decide +kernel, rfl, by decide +kernel, by decide +kernel⟩
abbrev s__law_near : Stmt := topS 54
abbrev N__law_near : List Str := ["_law_state", "_law_columns", "_law_index_here", "_law_size", "_law_more", "_law_sort", "_law_equal", "_law_step"]
theorem sc__law_near : FnScope N__law_near ["_law_state", "_law_columns", "_law_index_here"] (defScope s__law_near) := ⟨rfl, rfl, rfl, by decide +kernel, rfl, by decide +kernel, by decide +kernel⟩
abbrev s__law_demand : Stmt := topS 55
abbrev N__law_demand : List Str := ["_law_state", "_law_columns", "_law_most", "_law_known", "_law_index_here", "_law_k"]
theorem sc__law_demand : FnScope N__law_demand ["_law_state", "_law_columns", "_law_most"] (defScope s__law_demand) := ⟨rfl, rfl, rfl, by decide +kernel, rfl, by decide +kernel, by decide +kernel⟩
abbrev s_beginnings_in : Stmt := topS 25
abbrev N_beginnings_in : List Str := ["index", "order", "step", "size"]
theorem sc_beginnings_in : FnScope N_beginnings_in ["index"] (defScope s_beginnings_in) := ⟨rfl, rfl, rfl, by decide +kernel, rfl, by decide +kernel, by decide +kernel⟩
abbrev s_is_integer : Stmt := topS 13
abbrev N_is_integer : List Str := ["thing"]
theorem sc_is_integer : FnScope N_is_integer ["thing"] (defScope s_is_integer) := ⟨rfl, rfl, rfl, by decide +kernel, rfl, by decide +kernel, by decide +kernel⟩
abbrev s_is_between : Stmt := topS 14
abbrev N_is_between : List Str := ["thing", "least", "most"]
theorem sc_is_between : FnScope N_is_between ["thing", "least", "most"] (defScope s_is_between) := ⟨rfl, rfl, rfl, by decide +kernel, rfl, by decide +kernel, by decide +kernel⟩
abbrev s_need_columns : Stmt := topS 21
abbrev N_need_columns : List Str := ["columns"]
theorem sc_need_columns : FnScope N_need_columns ["columns"] (defScope s_need_columns) := ⟨rfl, rfl, rfl, by decide +kernel, rfl, by decide +kernel, by decide +kernel⟩
abbrev s_is_step : Stmt := topS 17
abbrev N_is_step : List Str := ["columns", "thing"]
theorem sc_is_step : FnScope N_is_step ["columns", "thing"] (defScope s_is_step) := ⟨rfl, rfl, rfl, by decide +kernel, rfl, by decide +kernel, by decide +kernel⟩
abbrev s_is_rising : Stmt := topS 15
abbrev N_is_rising : List Str := ["some", "one", "other"]
theorem sc_is_rising : FnScope N_is_rising ["some"] (defScope s_is_rising) := ⟨rfl, rfl, rfl, by decide +kernel, rfl, by decide +kernel, by decide +kernel⟩
abbrev s_are_steps : Stmt := topS 18
abbrev N_are_steps : List Str := ["columns", "thing", "step"]
theorem sc_are_steps : FnScope N_are_steps ["columns", "thing"] (defScope s_are_steps) := ⟨rfl, rfl, rfl, by decide +kernel, rfl, by decide +kernel, by decide +kernel⟩
abbrev s_is_index : Stmt := topS 20
abbrev N_is_index : List Str := ["columns", "thing"]
theorem sc_is_index : FnScope N_is_index ["columns", "thing"] (defScope s_is_index) := ⟨rfl, rfl, rfl, by decide +kernel, rfl, by decide +kernel, by decide +kernel⟩
abbrev s_need_index_of : Stmt := topS 23
abbrev N_need_index_of : List Str := ["columns", "index"]
theorem sc_need_index_of : FnScope N_need_index_of ["columns", "index"] (defScope s_need_index_of) := ⟨rfl, rfl, rfl, by decide +kernel, rfl, by decide +kernel, by decide +kernel⟩
abbrev s_need_index : Stmt := topS 32
abbrev N_need_index : List Str := ["columns", "thing"]
theorem sc_need_index : FnScope N_need_index ["columns", "thing"] (defScope s_need_index) := ⟨rfl, rfl, rfl, by decide +kernel, rfl, by decide +kernel, by decide +kernel⟩
abbrev s_beginnings : Stmt := topS 33
abbrev N_beginnings : List Str := ["columns", "index"]
theorem sc_beginnings : FnScope N_beginnings ["columns", "index"] (defScope s_beginnings) := ⟨rfl, rfl, rfl, by decide +kernel, rfl, by decide +kernel, by decide +kernel⟩
abbrev s__law_begun : Stmt := topS 44
abbrev N__law_begun : List Str := ["_law_index_here", "_law_order", "_law_step", "_law_size"]
theorem sc__law_begun : FnScope N__law_begun ["_law_index_here"] (defScope s__law_begun) := ⟨rfl, rfl, rfl, by decide +kernel, rfl, by decide +kernel, by decide +kernel⟩
abbrev s__law_sets : Stmt := topS 43
abbrev N__law_sets : List Str := ["_law_lookup_here", "_law_equal", "_law_sort", "_law_behind", "_law_step", "_law_size"]
theorem sc__law_sets : FnScope N__law_sets ["_law_lookup_here"] (defScope s__law_sets) := ⟨rfl, rfl, rfl, by decide +kernel, rfl, by decide +kernel, by decide +kernel⟩
abbrev s__law_way : Stmt := topS 46
abbrev N__law_way : List Str := ["_law_index_here", "_law_lookup_here", "_law_begun_here", "_law_other", "_law_lot", "_law_step"]
theorem sc__law_way : FnScope N__law_way ["_law_index_here", "_law_lookup_here"] (defScope s__law_way) := ⟨rfl, rfl, rfl, by decide +kernel, rfl, by decide +kernel, by decide +kernel⟩
abbrev s_is_lot : Stmt := topS 16
abbrev N_is_lot : List Str := ["columns", "thing", "one"]
theorem sc_is_lot : FnScope N_is_lot ["columns", "thing"] (defScope s_is_lot) := ⟨rfl, rfl, rfl, by decide +kernel, rfl, by decide +kernel, by decide +kernel⟩
abbrev s_is_lookup : Stmt := topS 19
abbrev N_is_lookup : List Str := ["columns", "thing", "step"]
theorem sc_is_lookup : FnScope N_is_lookup ["columns", "thing"] (defScope s_is_lookup) := ⟨rfl, rfl, rfl, by decide +kernel, rfl, by decide +kernel, by decide +kernel⟩
abbrev s_need_lookup_of : Stmt := topS 22
abbrev N_need_lookup_of : List Str := ["columns", "lookup"]
theorem sc_need_lookup_of : FnScope N_need_lookup_of ["columns", "lookup"] (defScope s_need_lookup_of) := ⟨rfl, rfl, rfl, by decide +kernel, rfl, by decide +kernel, by decide +kernel⟩
abbrev s_sets_in : Stmt := topS 24
abbrev N_sets_in : List Str := ["lookup", "equal", "sort", "behind", "step", "size"]
theorem sc_sets_in : FnScope N_sets_in ["lookup"] (defScope s_sets_in) := ⟨rfl, rfl, rfl, by decide +kernel, rfl, by decide +kernel, by decide +kernel⟩
abbrev s_likeness : Stmt := topS 26
abbrev N_likeness : List Str := ["sort", "steps", "known", "same", "column", "way"]
theorem sc_likeness : FnScope N_likeness ["sort", "steps"] (defScope s_likeness) := ⟨rfl, rfl, rfl, by decide +kernel, rfl, by decide +kernel, by decide +kernel⟩
abbrev s_way_in : Stmt := topS 27
abbrev N_way_in : List Str := ["index", "lookup", "begun", "found", "lot"]
theorem sc_way_in : FnScope N_way_in ["index", "lookup"] (defScope s_way_in) := ⟨rfl, rfl, rfl, by decide +kernel, rfl, by decide +kernel, by decide +kernel⟩
abbrev s_way_of : Stmt := topS 34
abbrev N_way_of : List Str := ["columns", "index", "lookup"]
theorem sc_way_of : FnScope N_way_of ["columns", "index", "lookup"] (defScope s_way_of) := ⟨rfl, rfl, rfl, by decide +kernel, rfl, by decide +kernel, by decide +kernel⟩
abbrev s_does_serve : Stmt := topS 35
abbrev N_does_serve : List Str := ["columns", "index", "lookup"]
theorem sc_does_serve : FnScope N_does_serve ["columns", "index", "lookup"] (defScope s_does_serve) := ⟨rfl, rfl, rfl, by decide +kernel, rfl, by decide +kernel, by decide +kernel⟩
abbrev s_need_demand : Stmt := topS 30
abbrev N_need_demand : List Str := ["thing", "columns", "some", "spot", "lookup"]
theorem sc_need_demand : FnScope N_need_demand ["thing"] (defScope s_need_demand) := ⟨rfl, rfl, rfl, by decide +kernel, rfl, by decide +kernel, by decide +kernel⟩
abbrev s_served_in : Stmt := topS 36
abbrev N_served_in : List Str := ["demand", "index", "spot", "lookup"]
theorem sc_served_in : FnScope N_served_in ["demand", "index"] (defScope s_served_in) := ⟨rfl, rfl, rfl, by decide +kernel, rfl, by decide +kernel, by decide +kernel⟩
abbrev s_served_by : Stmt := topS 37
abbrev N_served_by : List Str := ["demand", "index"]
theorem sc_served_by : FnScope N_served_by ["demand", "index"] (defScope s_served_by) := ⟨rfl, rfl, rfl, by decide +kernel, rfl, by decide +kernel, by decide +kernel⟩
abbrev s__law_index_right : Stmt := topS 57
abbrev N__law_index_right : List Str := ["_law_demand_here", "_law_index_here", "_law_columns", "_law_some", "_law_due", "_law_back", "_law_spot", "_law_lookup_here", "_law_way_here", "_law_gone", "_law_left", "_law_longer", "_law_step", "_law_column"]
theorem sc__law_index_right : FnScope N__law_index_right ["_law_demand_here", "_law_index_here"] (defScope s__law_index_right) := ⟨rfl, rfl, rfl, by decide +kernel, rfl, by decide +kernel, by decide +kernel⟩
abbrev s_law : Stmt := topS 58
abbrev N_law : List Str := ["_law_script", "_law_state", "_law_turn", "_law_demand_here", "_law_k", "_law_wide", "_law_sort", "_law_index_here", "_law_column"]
theorem sc_law : FnScope N_law ["_law_script"] (defScope s_law) := ⟨rfl, rfl, rfl, by decide +kernel, rfl, by decide +kernel, by decide +kernel⟩
/-- a def of the text, where the module's name x says -/
structure Def (K : PySem.W.Frag) (mg : Str → Option Value) (x : Str) (st : Stmt) : Prop where
  ex : ∃ f fd, FunD K x x (defArgs st) (defBody st) (defScope st) [] [] f fd ∧ mg x = some (.ref f)
/-- what the names of built-ins and constants stand for -/
structure Fx (K : PySem.W.Frag) (mg : Str → Option Value) : Prop where
  isinstance : mg "isinstance" = none
  int : mg "int" = none
  bool : mg "bool" = none
  str : mg "str" = none
  tuple : mg "tuple" = none
  all : mg "all" = none
  any : mg "any" = none
  zip : mg "zip" = none
  sorted : mg "sorted" = none
  len : mg "len" = none
  list : mg "list" = none
  dict : mg "dict" = none
  range : mg "range" = none
  enumerate : mg "enumerate" = none
  min : mg "min" = none
  MOST_COLUMNS : ∃ t, mg "MOST_COLUMNS" = some (.int 8 t)
  MOST_LOOKUPS : ∃ t, mg "MOST_LOOKUPS" = some (.int 12 t)
  FORWARD : ∃ t, mg "FORWARD" = some (.str "forward" t)
  BACKWARD : ∃ t, mg "BACKWARD" = some (.str "backward" t)
  WAYS : ∃ a, mg "WAYS" = some (.ref a) ∧ ∀ H : Hp, SqT K H a [.str "up", .str "down"]
/-- the module's def x keeps the promise sp -/
structure Cal (P : Program) (w : World) (K : PySem.W.Frag) (mg : Str → Option Value) (base : Heap) (k : Nat) (x : Str) (ps : List Str) (sp : Sp) : Prop where
  ex : ∃ f fd, FnOk P w K mg base CX0 k f fd ps sp ∧ mg x = some (.ref f) ∧ PySem.W.keepIn K (.ref f) = true ∧ Binds K fd ps []
section
variable {X : Cx} {e : Expr} {es : List Expr} {t : TA} {x : Str} {p pos : Pos}
theorem pe_cal {k j : Nat} {ps : List Str} {sp : Sp} (C : Cal X.prog X.w X.K X.mg X.base k x ps sp) (hr : Room j X.A) (hj : k ≤ j) (hg : Gl X x) (ha : PA X (e :: es) t)
    (hdb : (x == ("__debug__" : Str)) = false := by decide) (he : starEach (e :: es) X.env = (false, eval e X.env) :: starEach es X.env := by rfl) (hpl : (backTo pos (starEach es X.env)).any (·.1) = false := by rfl) :
    PE X (.Call (.Name x p) (e :: es) [] pos) (tCall sp [] E0 t) := by
  obtain ⟨f, fd, F, gm, kp, b⟩ := C.ex
  exact pe_call F (hr.mono hj) hg gm kp b .nil pass0 ha hdb he hpl
theorem pe_gint {i : Int} (hg : Gl X x) (h : ∃ t, X.mg x = some (.int i t)) (hd : (x == ("__debug__" : Str)) = false := by decide) : PE X (.Name x pos) (tC (.int i)) := by
  obtain ⟨t, h⟩ := h
  exact pe_glob (v := .int i) hg h ⟨t, rfl⟩ hd
theorem pe_gstr {z : Str} (hg : Gl X x) (h : ∃ t, X.mg x = some (.str z t)) (hd : (x == ("__debug__" : Str)) = false := by decide) : PE X (.Name x pos) (tC (.str z)) := by
  obtain ⟨t, h⟩ := h
  exact pe_glob (v := .str z) hg h ⟨t, rfl⟩ hd
/-- a constant tuple of the module: its address, whatever it is -/
def tWay (K : PySem.W.Frag) (xs : List V) : TE := fun _ H Q => ∀ a, (∀ H' : Hp, SqT K H' a xs) → Q (.ref a) H
theorem pe_gref {xs : List V} (hg : Gl X x) (h : ∃ a, X.mg x = some (.ref a) ∧ ∀ H : Hp, SqT X.K H a xs) (hd : (x == ("__debug__" : Str)) = false := by decide) : PE X (.Name x pos) (tWay X.K xs) := by
  obtain ⟨a, h, hs⟩ := h
  have g : PE X (.Name x pos) (tC (.ref a)) := pe_glob (v := .ref a) hg h rfl hd
  exact ⟨fun pins s σ H Q I q => g.run pins s σ H Q I (q a hs)⟩
end
/-! the rules, the written part K named (within a comprehension it must not be read off the block's context) -/
section
variable {X : Cx} (K : PySem.W.Frag)
theorem ix_uK (h : X.K = K := by rfl) : IxR X (rIxU K) := h ▸ ix_u
theorem op_eqK (hu : X.A.units + 64 < cLine) (h : X.K = K := by rfl) : OpR X (compareOp .Eq) (rEqD K) := h ▸ op_eqD hu
theorem op_neK (hu : X.A.units + 64 < cLine) (h : X.K = K := by rfl) : OpR X (compareOp .NotEq) (rNeD K) := h ▸ op_neD hu
theorem op_geK (hu : X.A.units + 64 < cLine) (h : X.K = K := by rfl) : OpR X (compareOp .GtE) (rGeD K) := h ▸ op_geD hu
theorem op_inK (hu : X.A.units + 65 < cLine) (h : X.K = K := by rfl) : OpR X (compareOp .In) (rInU K false) := h ▸ op_inU hu
theorem op_notInK (hu : X.A.units + 65 < cLine) (h : X.K = K := by rfl) : OpR X (compareOp .NotIn) (rInU K true) := h ▸ op_notInU hu
theorem sl_uK (h : X.K = K := by rfl) : SlR X (rSlU K) := h ▸ sl_u
theorem op_plusK (h : X.K = K := by rfl) : OpR X (binaryOp .Add) (rPlus K) := h ▸ op_plus
def rLen (K : PySem.W.Frag) : List V → Hp → VK → Prop := fun xs H Q => ∃ p ys, xs = [.ref p] ∧ (SqL K H p ys ∨ SqT K H p ys) ∧ Q (.int ys.length) H
def rList (K : PySem.W.Frag) : List V → Hp → VK → Prop := fun xs H Q => ∃ p ys, xs = [.ref p] ∧ (SqL K H p ys ∨ SqT K H p ys) ∧ ∀ l, H l = none → Q (.ref l) (upd H l (.lst ys))
theorem call_lenK (h : X.K = K := by rfl) : CallR X (.builtin "len") (rLen K) := h ▸ call_len_seq
theorem call_listK (h : X.K = K := by rfl) : CallR X (.type "list") (rList K) := h ▸ call_list_of
theorem call_tupK (h : X.K = K := by rfl) : CallR X (.type "tuple") (rTupF K) := h ▸ call_tupF
theorem call_dictK (hc : X.calm = true) (h : X.K = K := by rfl) : CallR X (.type "dict") (rDictT K) := h ▸ call_dictT hc
theorem call_isiK' (h : X.K = K := by rfl) : CallR X (.builtin "isinstance") (rIsi K) := h ▸ call_isi
theorem cr_allK (hc : X.calm = true) (h : X.K = K := by rfl) : CallR X (.builtin "all") (rAll K) := h ▸ cr_all hc
theorem cr_anyK (hc : X.calm = true) (h : X.K = K := by rfl) : CallR X (.builtin "any") (rAny K) := h ▸ cr_any hc
theorem cr_sortedK (h : X.K = K := by rfl) : CallR X (.builtin "sorted") (rSorted K) := h ▸ cr_sorted
theorem pi_seqK {tg l : Expr} {tl : TE} (hl : PE X l tl) (h : X.K = K := by rfl) : PI X tg l (iSeq K tl) := h ▸ pi_seq hl
end
theorem hu65_of {A : Around} {k : Nat} (hr : Room k A) : A.units + 65 < cLine := by
  have := hr.un
  omega
theorem hu64_of {A : Around} {k : Nat} (hr : Room k A) : A.units + 64 < cLine := by
  have := hr.un
  omega
theorem hu100_of {A : Around} {k : Nat} (hr : Room k A) : A.units + 100 < cLine := by
  have := hr.un
  omega
section
variable {P : Program} {w : World} {K : PySem.W.Frag} {mg : Str → Option Value} {base : Heap}
/-- the promise of a def that changes nothing, by its body -/
theorem mk_cal {x : Str} {st : Stmt} {N ps : List Str} {k : Nat} {F : List PyData → PyData → Prop} (D : Def K mg x st) (S : FnScope N ps (defScope st)) (len : ∀ ds r, F ds r → ds.length = ps.length)
    (hb : ∀ (kV doc pm : Value) (an : Option Addr) (cdv ct : Value) (us : List Value), us.length = ps.length → bindArgs (PySem.W.fnOf x x (defArgs st) (defBody st) (defScope st) .none kV doc pm an cdv ct) ⟨us, []⟩ = pure (ps.zip us))
    (body : ∀ (f : Addr) (cdv : Value) (A : Around) (outer : List Env) (s : Shared) (H : Hp) (E : XK), Room k (A.deeper (envOfC x (defScope st) s.heap.objs.size f cdv)) →
      ∃ t, PSs (cxOf CX0 P w K mg base N x (defScope st) f cdv A outer s H E).nox (defBody st) t ∧ ∀ ds r, F ds r → DR K t (ds.map Sl.d ++ List.replicate (N.length - ds.length) Sl.no) r) : Cal P w K mg base (k + 1) x ps (spF K F) := by
  obtain ⟨f, fd, D, gm⟩ := D.ex
  refine ⟨f, fd, D.ok S (fun vs H Q E h => ?_) (fun cdv A outer s H vs Q E hr h => ?_), gm, D.kp, D.bindsN hb⟩
  · obtain ⟨ds, r, hv, hF, _⟩ := h
    rw [hv.len]
    exact len ds r hF
  · obtain ⟨ds, r, hv, hF, q⟩ := h
    obtain ⟨t, ht, hd⟩ := body f cdv A outer s H E hr
    exact ⟨t, ht.nox, hd ds r hF _ _ H (EnvD.start hv) q⟩
/-- the same of a def that runs off its end -/
theorem mk_calN {x : Str} {st : Stmt} {N ps : List Str} {k : Nat} {F : List PyData → Prop} (D : Def K mg x st) (S : FnScope N ps (defScope st)) (len : ∀ ds, F ds → ds.length = ps.length)
    (hb : ∀ (kV doc pm : Value) (an : Option Addr) (cdv ct : Value) (us : List Value), us.length = ps.length → bindArgs (PySem.W.fnOf x x (defArgs st) (defBody st) (defScope st) .none kV doc pm an cdv ct) ⟨us, []⟩ = pure (ps.zip us))
    (body : ∀ (f : Addr) (cdv : Value) (A : Around) (outer : List Env) (s : Shared) (H : Hp) (E : XK), Room k (A.deeper (envOfC x (defScope st) s.heap.objs.size f cdv)) →
      ∃ t, PSs (cxOf CX0 P w K mg base N x (defScope st) f cdv A outer s H E).nox (defBody st) t ∧ ∀ ds, F ds → ∃ ρ', DN K t (ds.map Sl.d ++ List.replicate (N.length - ds.length) Sl.no) ρ') : Cal P w K mg base (k + 1) x ps (spF K fun ds r => F ds ∧ r = .none) := by
  obtain ⟨f, fd, D, gm⟩ := D.ex
  refine ⟨f, fd, D.ok S (fun vs H Q E h => ?_) (fun cdv A outer s H vs Q E hr h => ?_), gm, D.kp, D.bindsN hb⟩
  · obtain ⟨ds, r, hv, hF, _⟩ := h
    rw [hv.len]
    exact len ds hF.1
  · obtain ⟨ds, r, hv, ⟨hF, rfl⟩, q⟩ := h
    obtain ⟨t, ht, hd⟩ := body f cdv A outer s H E hr
    obtain ⟨ρ', hd⟩ := hd ds hF
    exact ⟨t, ht.nox, hd _ _ H (EnvD.start hv) fun σ' H' s' _ => q _ H' s' .non⟩
/-- a text among written ones -/
theorem de_inW {ta : TE} {ρ : Rho} {x : Str} {xs : List V} (ha : DE K ta ρ (.str x)) (hx : xs.all flatV = true) : DE K (tOp (rIn K false) ta (tWay K xs)) ρ (.bool (inV (.str x) xs)) := fun σ H Q e q => ha σ H _ e fun v H1 s1 d1 => fun a hs => by
  rw [d1.getS]
  exact ⟨a, xs, rfl, .inr (hs H1), rfl, hx, q _ H1 s1 (.bl _)⟩
end
end K3
set_option Elab.async false
set_option linter.all false
set_option maxRecDepth 100000
set_option maxHeartbeats 4000000
/-! What the defs compute, in plain lists; how such data stand as PyData. -/
namespace K3
open PySem PySem.Spec PyProof.Rows L2

abbrev Stp := Int × Bool
abbrev Lk := List Int × List Stp
def wS (b : Bool) : Str := if b = true then "up" else "down"
def encLot (cs : List Int) : PyData := .tuple (cs.map .int)
def encStep (s : Stp) : PyData := .tuple [.int s.1, .str (wS s.2)]
def encSteps (ss : List Stp) : PyData := .tuple (ss.map encStep)
def encLk (l : Lk) : PyData := .tuple [encLot l.1, encSteps l.2]
def encLks (ls : List Lk) : PyData := .tuple (ls.map encLk)
def encDem (c : Int) (ls : List Lk) : PyData := .tuple [.int c, encLks ls]

/-! ### shapes -/
theorem lay_map {α : Type} (f : α → PyData) (h : ∀ a, (f a).canLay0 = true) : ∀ l : List α, PyData.canLayAll0 (l.map f) = true
  | [] => rfl
  | a :: r => by
    show ((f a).canLay0 && PyData.canLayAll0 (r.map f)) = true
    rw [h a, lay_map f h r]
    rfl
theorem dep_map {α : Type} (f : α → PyData) {n : Nat} (h : ∀ a, (f a).depth ≤ n) : ∀ l : List α, PyData.depthAll (l.map f) ≤ n
  | [] => Nat.zero_le _
  | a :: r => by
    show max (f a).depth (PyData.depthAll (r.map f)) ≤ n
    exact Nat.max_le.mpr ⟨h a, dep_map f h r⟩
theorem lay_int (i : Int) : (PyData.int i).canLay0 = true := rfl
theorem lay_lot (cs : List Int) : (encLot cs).canLay0 = true := lay_map .int lay_int cs
theorem wS_ok (b : Bool) : (PyData.str (wS b)).canLay0 = true := by
  cases b
  · decide +kernel
  · decide +kernel
theorem lay_step (s : Stp) : (encStep s).canLay0 = true := by
  show ((PyData.int s.1).canLay0 && ((PyData.str (wS s.2)).canLay0 && PyData.canLayAll0 [])) = true
  rw [wS_ok]
  rfl
theorem lay_steps (ss : List Stp) : (encSteps ss).canLay0 = true := lay_map encStep lay_step ss
theorem lay_lk (l : Lk) : (encLk l).canLay0 = true := by
  show ((encLot l.1).canLay0 && ((encSteps l.2).canLay0 && PyData.canLayAll0 [])) = true
  rw [lay_lot, lay_steps]
  rfl
theorem dep_lot (cs : List Int) : (encLot cs).depth ≤ 1 := by
  show PyData.depthAll (cs.map .int) + 1 ≤ 1
  have := dep_map PyData.int (n := 0) (fun i => by show PyData.depth (.int i) ≤ 0; exact Nat.le_refl 0) cs
  omega
theorem dep_step (s : Stp) : (encStep s).depth ≤ 1 := by
  show max (PyData.depth (.int s.1)) (max (PyData.depth (.str (wS s.2))) 0) + 1 ≤ 1
  show max 0 (max 0 0) + 1 ≤ 1
  decide
theorem dep_steps (ss : List Stp) : (encSteps ss).depth ≤ 2 := by
  show PyData.depthAll (ss.map encStep) + 1 ≤ 2
  have := dep_map encStep dep_step ss
  omega
theorem dep_lk (l : Lk) : (encLk l).depth ≤ 3 := by
  show max (encLot l.1).depth (max (encSteps l.2).depth 0) + 1 ≤ 3
  have h1 := dep_lot l.1
  have h2 := dep_steps l.2
  omega
theorem shaped_of {d : PyData} (h : d.canLay0 = true) (k : d.depth ≤ 64) : SeqAt.shaped d = true := by
  show (d.canLay0 && decide (d.depth ≤ 64)) = true
  rw [h, decide_eq_true k]
  rfl
theorem sh_int (i : Int) : SeqAt.shaped (.int i) = true := shaped_of (lay_int i) (Nat.zero_le _)
theorem sh_lot (cs : List Int) : SeqAt.shaped (encLot cs) = true := shaped_of (lay_lot cs) (Nat.le_trans (dep_lot cs) (by decide))
theorem sh_step (s : Stp) : SeqAt.shaped (encStep s) = true := shaped_of (lay_step s) (Nat.le_trans (dep_step s) (by decide))
theorem sh_steps (ss : List Stp) : SeqAt.shaped (encSteps ss) = true := shaped_of (lay_steps ss) (Nat.le_trans (dep_steps ss) (by decide))
theorem sh_lk (l : Lk) : SeqAt.shaped (encLk l) = true := shaped_of (lay_lk l) (Nat.le_trans (dep_lk l) (by decide))
theorem sh_lots (ls : List (List Int)) : SeqAt.shaped (.list (ls.map encLot)) = true := by
  refine shaped_of (lay_map encLot lay_lot ls) ?_
  show PyData.depthAll (ls.map encLot) + 1 ≤ 64
  have := dep_map encLot dep_lot ls
  omega
theorem sh_lotsT (ls : List (List Int)) : SeqAt.shaped (.tuple (ls.map encLot)) = true := by
  refine shaped_of (lay_map encLot lay_lot ls) ?_
  show PyData.depthAll (ls.map encLot) + 1 ≤ 64
  have := dep_map encLot dep_lot ls
  omega
theorem sh_ints (ns : List Int) : SeqAt.shaped (.list (ns.map .int)) = true := by
  refine shaped_of (lay_map .int lay_int ns) ?_
  show PyData.depthAll (ns.map .int) + 1 ≤ 64
  have := dep_map PyData.int (n := 0) (fun i => by show PyData.depth (.int i) ≤ 0; exact Nat.le_refl 0) ns
  omega

/-! ### no write touches them -/
theorem frz_lot (cs : List Int) : frz (encLot cs) = true := frzAll_map .int (fun _ => rfl) cs
theorem frz_step (s : Stp) : frz (encStep s) = true := rfl
theorem frz_steps (ss : List Stp) : frz (encSteps ss) = true := frzAll_map encStep frz_step ss
theorem frz_lk (l : Lk) : frz (encLk l) = true := by
  show (frz (encLot l.1) && (frz (encSteps l.2) && true)) = true
  rw [frz_lot, frz_steps]
  rfl
theorem frz_lks (ls : List Lk) : frz (encLks ls) = true := frzAll_map encLk frz_lk ls

/-! ### == of them -/
theorem eqvAll_map {α : Type} [DecidableEq α] (f : α → PyData) (h : ∀ a b, PyData.eqv (f a) (f b) = decide (a = b)) : ∀ l m : List α, PyData.eqvAll (l.map f) (m.map f) = decide (l = m)
  | [], [] => rfl
  | [], _ :: _ => rfl
  | _ :: _, [] => rfl
  | a :: r, b :: q => by
    show (PyData.eqv (f a) (f b) && PyData.eqvAll (r.map f) (q.map f)) = decide (a :: r = b :: q)
    rw [h a b, eqvAll_map f h r q]
    by_cases e : a = b
    · subst e
      by_cases e2 : r = q
      · subst e2
        simp
      · simp [e2]
    · simp [e]
theorem eqv_int (i j : Int) : PyData.eqv (.int i) (.int j) = decide (i = j) := by
  show (i == j) = decide (i = j)
  rfl
theorem eqv_lot (a b : List Int) : PyData.eqv (encLot a) (encLot b) = decide (a = b) := eqvAll_map .int eqv_int a b
theorem wS_inj {a b : Bool} (h : wS a = wS b) : a = b := by
  cases a <;> cases b
  · rfl
  · exact absurd h (by decide +kernel)
  · exact absurd h (by decide +kernel)
  · rfl
theorem eqv_step (a b : Stp) : PyData.eqv (encStep a) (encStep b) = decide (a = b) := by
  show ((a.1 == b.1) && ((wS a.2 == wS b.2) && true)) = decide (a = b)
  obtain ⟨a1, a2⟩ := a
  obtain ⟨b1, b2⟩ := b
  by_cases e : a1 = b1
  · subst e
    by_cases e2 : a2 = b2
    · subst e2
      simp
    · have : wS a2 ≠ wS b2 := fun z => e2 (wS_inj z)
      simp [e2, this]
  · simp [e]
theorem eqv_steps (a b : List Stp) : PyData.eqv (encSteps a) (encSteps b) = decide (a = b) := eqvAll_map encStep eqv_step a b
theorem eqv_ints (a b : List Int) : PyData.eqv (.list (a.map .int)) (.list (b.map .int)) = decide (a = b) := eqvAll_map .int eqv_int a b
theorem eqv_lots (a b : List (List Int)) : PyData.eqv (.tuple (a.map encLot)) (.tuple (b.map encLot)) = decide (a = b) := eqvAll_map encLot eqv_lot a b
theorem any_lot (ls : List (List Int)) (x : List Int) : ((ls.map encLot).any fun z => PyData.eqv z (encLot x)) = decide (x ∈ ls) := by
  rw [List.any_map]
  refine Bool.eq_iff_iff.mpr ?_
  rw [List.any_eq_true, decide_eq_true_iff]
  constructor
  · rintro ⟨y, hy, e⟩
    have e' : PyData.eqv (encLot y) (encLot x) = true := e
    rw [eqv_lot] at e'
    exact of_decide_eq_true e' ▸ hy
  · intro h
    exact ⟨x, h, by show PyData.eqv (encLot x) (encLot x) = true; rw [eqv_lot]; exact decide_eq_true rfl⟩
theorem any_step (ls : List Stp) (x : Stp) : ((ls.map encStep).any fun z => PyData.eqv z (encStep x)) = decide (x ∈ ls) := by
  rw [List.any_map]
  refine Bool.eq_iff_iff.mpr ?_
  rw [List.any_eq_true, decide_eq_true_iff]
  constructor
  · rintro ⟨y, hy, e⟩
    have e' : PyData.eqv (encStep y) (encStep x) = true := e
    rw [eqv_step] at e'
    exact of_decide_eq_true e' ▸ hy
  · intro h
    exact ⟨x, h, by show PyData.eqv (encStep x) (encStep x) = true; rw [eqv_step]; exact decide_eq_true rfl⟩
theorem any_int (ls : List Int) (x : Int) : ((ls.map PyData.int).any fun z => PyData.eqv z (.int x)) = decide (x ∈ ls) := by
  rw [List.any_map]
  refine Bool.eq_iff_iff.mpr ?_
  rw [List.any_eq_true, decide_eq_true_iff]
  constructor
  · rintro ⟨y, hy, e⟩
    have e' : PyData.eqv (.int y) (.int x) = true := e
    rw [eqv_int] at e'
    exact of_decide_eq_true e' ▸ hy
  · intro h
    exact ⟨x, h, by show PyData.eqv (.int x) (.int x) = true; rw [eqv_int]; exact decide_eq_true rfl⟩

theorem list_nil_eqv {α : Type} (f : α → PyData) : ∀ l : List α, PyData.eqv (.list (l.map f)) (.list []) = l.isEmpty
  | [] => rfl
  | _ :: _ => rfl
theorem none_left {α : Type} (p : α → Bool) : ∀ l : List α, (l.filter fun x => !p x).isEmpty = l.all p
  | [] => rfl
  | a :: r => by
    rw [List.filter_cons, List.all_cons]
    cases h : p a with
    | true =>
      show (List.filter (fun x => !p x) r).isEmpty = (true && r.all p)
      rw [none_left p r, Bool.true_and]
    | false => rfl
/-! ### they can be compared -/
theorem alike_map {α : Type} (f : α → PyData) (h : ∀ a b, PySem.W.alike (f a) (f b) = true) : ∀ l m : List α, PySem.W.alikeAll (l.map f) (m.map f) = true
  | [], _ => rfl
  | _ :: _, [] => rfl
  | a :: r, b :: q => by
    show (PySem.W.alike (f a) (f b) && PySem.W.alikeAll (r.map f) (q.map f)) = true
    rw [h a b, alike_map f h r q]
    rfl
theorem alike_lot (a b : List Int) : PySem.W.alike (encLot a) (encLot b) = true := alike_map .int (fun _ _ => rfl) a b
theorem alike_step (a b : Stp) : PySem.W.alike (encStep a) (encStep b) = true := rfl
theorem alike_steps (a b : List Stp) : PySem.W.alike (encSteps a) (encSteps b) = true := alike_map encStep alike_step a b
theorem alike_lk (a b : Lk) : PySem.W.alike (encLk a) (encLk b) = true := by
  show (PySem.W.alike (encLot a.1) (encLot b.1) && (PySem.W.alike (encSteps a.2) (encSteps b.2) && true)) = true
  rw [alike_lot, alike_steps]
  rfl
def ltLk (a b : Lk) : Bool := PySem.W.dataLt (encLk a) (encLk b)
/-! ### numbered -/
def encN (p : Lk × Nat) : PyData := .tuple [.int (p.2 : Int), encLk p.1]
theorem numD_lks (ls : List Lk) : numD (ls.map encLk) = ls.zipIdx.map encN := by
  refine List.ext_getElem? fun i => ?_
  unfold numD
  rw [List.getElem?_zipWith, List.getElem?_map, List.getElem?_map, List.getElem?_zipIdx, List.length_map]
  by_cases h : i < ls.length
  · rw [List.getElem?_range h, List.getElem?_eq_getElem h]
    show some (PyData.tuple [.int (i : Int), encLk ls[i]]) = some (encN (ls[i], 0 + i))
    rw [Nat.zero_add]
    rfl
  · rw [List.getElem?_eq_none (l := ls) (by omega), List.getElem?_eq_none (by rw [List.length_range]; omega)]
    rfl
/-! ### what is a lot, steps, a lookup -/
def LotOk (c : Int) (cs : List Int) : Prop := (∀ x ∈ cs, 0 ≤ x ∧ x < c) ∧ cs.Pairwise (· < ·) ∧ cs.length ≤ 8
def StepsOk (c : Int) (ss : List Stp) : Prop := (∀ s ∈ ss, 0 ≤ s.1 ∧ s.1 < c) ∧ (ss.map (·.1)).Nodup ∧ ss.length ≤ 8
def LkOk (c : Int) (l : Lk) : Prop := LotOk c l.1 ∧ StepsOk c l.2 ∧ (∀ s ∈ l.2, s.1 ∉ l.1) ∧ ¬ (l.1 = [] ∧ l.2 = [])
def IxOk (c : Int) (ix : List Stp) : Prop := StepsOk c ix ∧ ix ≠ []

/-- a demand: lookups, each greater than the one ahead -/
def DemOk (c : Int) (ls : List Lk) : Prop := 1 ≤ c ∧ c ≤ 8 ∧ 1 ≤ ls.length ∧ ls.length ≤ 12 ∧ (∀ l ∈ ls, LkOk c l) ∧ ∀ i a b, ls[i]? = some a → ls[i + 1]? = some b → ltLk a b = true

/-! ### sets, beginnings, ways -/
def colsM (ss : List Stp) : List Int := ss.map (·.1)
def setsM (l : Lk) : List (List Int) := (List.range (l.2.length + 1)).map fun k => srt (l.1 ++ (colsM l.2).take k)
def begM (ix : List Stp) : List (List Int) := (List.range (ix.length + 1)).map fun k => srt ((colsM ix).take k)
def turnM (ss : List Stp) : List Stp := ss.map fun s => (s.1, !s.2)
def setsIn (ix : List Stp) (l : Lk) : Bool := (setsM l).all fun x => decide (x ∈ begM ix)
def wayM (ix : List Stp) (l : Lk) : Option Bool :=
  if setsIn ix l = true then (if (l.2.all fun s => decide (s ∈ ix)) = true then some true else if ((turnM l.2).all fun s => decide (s ∈ ix)) = true then some false else none) else none
def wayD : Option Bool → PyData
  | none => .none
  | some true => .str "forward"
  | some false => .str "backward"
def servM (ls : List Lk) (ix : List Stp) : List Int := (ls.zipIdx.filter fun p => (wayM ix p.1).isSome).map fun p => (p.2 : Int)
end K3
set_option Elab.async false
set_option linter.all false
set_option maxRecDepth 100000
set_option maxHeartbeats 4000000
/-! The likeness of two rows of steps; it is the way. -/
namespace K3
open PySem PySem.Spec PyProof.Rows L2

def inK (ss : List Stp) (c : Int) : Bool := ss.any fun s => s.1 == c
def likeM (sort ss : List Stp) : Int :=
  if (sort.all fun s => inK ss s.1) = true then (if (sort.all fun s => decide (s ∈ ss)) = true then 1 else if (sort.any fun s => decide (s ∈ ss)) = true then 0 else -1) else 0
theorem nodup_one {ss : List Stp} (h : (ss.map (·.1)).Nodup) {c : Int} {a b : Bool} (ha : (c, a) ∈ ss) (hb : (c, b) ∈ ss) : a = b := by
  induction ss with
  | nil => cases ha
  | cons s r ih =>
    have h' := List.nodup_cons.mp (show (s.1 :: r.map (·.1)).Nodup from h)
    rcases List.mem_cons.mp ha with e1 | e1
    · rcases List.mem_cons.mp hb with e2 | e2
      · exact (Prod.mk.inj (e1.trans e2.symm)).2
      · exact absurd (List.mem_map.mpr ⟨_, e2, by rw [← e1]⟩) h'.1
    · rcases List.mem_cons.mp hb with e2 | e2
      · exact absurd (List.mem_map.mpr ⟨_, e1, by rw [← e2]⟩) h'.1
      · exact ih h'.2 e1 e2
theorem inK_iff {ss : List Stp} {c : Int} (b : Bool) : inK ss c = true ↔ ((c, b) ∈ ss ∨ (c, !b) ∈ ss) := by
  unfold inK
  rw [List.any_eq_true]
  constructor
  · rintro ⟨⟨x, y⟩, hm, e⟩
    have ex : x = c := eq_of_beq e
    subst ex
    cases b <;> cases y <;> simp [hm]
  · rintro (h | h)
    · exact ⟨_, h, beq_self_eq_true c⟩
    · exact ⟨_, h, beq_self_eq_true c⟩
theorem likeM_way {sort ss : List Stp} (h : (ss.map (·.1)).Nodup) :
    (if likeM sort ss = 0 then (none : Option Bool) else if likeM sort ss = 1 then some true else some false) =
      (if (sort.all fun s => decide (s ∈ ss)) = true then some true else if ((turnM sort).all fun s => decide (s ∈ ss)) = true then some false else none) := by
  by_cases h1 : (sort.all fun s => decide (s ∈ ss)) = true
  · have hk : (sort.all fun s => inK ss s.1) = true := List.all_eq_true.mpr fun s m => (inK_iff s.2).mpr (.inl (of_decide_eq_true (List.all_eq_true.mp h1 s m)))
    have e : likeM sort ss = 1 := by
      unfold likeM
      rw [if_pos hk, if_pos h1]
    rw [e, if_neg (by decide), if_pos rfl, if_pos h1]
  · rw [if_neg h1]
    by_cases h2 : ((turnM sort).all fun s => decide (s ∈ ss)) = true
    · have ht : ∀ s ∈ sort, (s.1, !s.2) ∈ ss := fun s m => of_decide_eq_true (List.all_eq_true.mp h2 (s.1, !s.2) (List.mem_map.mpr ⟨s, m, rfl⟩))
      have hk : (sort.all fun s => inK ss s.1) = true := List.all_eq_true.mpr fun s m => (inK_iff s.2).mpr (.inr (ht s m))
      have hn : ¬ (sort.any fun s => decide (s ∈ ss)) = true := fun z => by
        obtain ⟨s, m, e⟩ := List.any_eq_true.mp z
        have q := nodup_one h (c := s.1) (a := s.2) (b := !s.2) (of_decide_eq_true e) (ht s m)
        cases hs : s.2 <;> rw [hs] at q <;> cases q
      have e : likeM sort ss = -1 := by
        unfold likeM
        rw [if_pos hk, if_neg h1, if_neg hn]
      rw [e, if_neg (by decide), if_neg (by decide), if_pos h2]
    · rw [if_neg h2]
      have e : likeM sort ss = 0 := by
        unfold likeM
        by_cases hk : (sort.all fun s => inK ss s.1) = true
        · rw [if_pos hk, if_neg h1]
          by_cases ha : (sort.any fun s => decide (s ∈ ss)) = true
          · rw [if_pos ha]
          · exfalso
            refine h2 (List.all_eq_true.mpr fun p m => decide_eq_true ?_)
            obtain ⟨s, hs, rfl⟩ := List.mem_map.mp m
            rcases (inK_iff s.2).mp (List.all_eq_true.mp hk s hs) with q | q
            · exact absurd (List.any_eq_true.mpr ⟨s, hs, decide_eq_true q⟩) ha
            · exact q
        · rw [if_neg hk]
      rw [e, if_pos rfl]

/-! ### the dict of an index -/
def kvsM (ss : List Stp) : List (Key × V) := ss.map fun s => (Sum.inl s.1, V.str (wS s.2))
def knownM (ss : List Stp) : List (Key × V) := mergeK [] (kvsM ss)
theorem merge_app (c : Int) : ∀ (ss : List Stp) (kvs : List (Key × V)), (ss.map (·.1)).Nodup → (∀ s ∈ ss, valV kvs (.inl s.1) = none) →
    valV (mergeK kvs (kvsM ss)) (.inl c) = match ss.find? (fun s => s.1 == c) with | some s => some (V.str (wS s.2)) | none => valV kvs (.inl c)
  | [], kvs, _, _ => rfl
  | s :: r, kvs, h, hk => by
    have h' := List.nodup_cons.mp (show (s.1 :: r.map (·.1)).Nodup from h)
    have ih := merge_app c r (putK kvs (.inl s.1) (.str (wS s.2))) h'.2 (fun q m => by
      rw [valV_put, if_neg fun z => h'.1 (List.mem_map.mpr ⟨q, m, Sum.inl.inj z⟩)]
      exact hk q (List.mem_cons_of_mem _ m))
    show valV (mergeK (putK kvs (.inl s.1) (.str (wS s.2))) (kvsM r)) (.inl c) = _
    rw [ih, List.find?_cons]
    by_cases e : s.1 = c
    · have hn : r.find? (fun s => s.1 == c) = none := List.find?_eq_none.mpr fun q m z => h'.1 (List.mem_map.mpr ⟨q, m, (eq_of_beq z).trans e.symm⟩)
      rw [hn, show (s.1 == c) = true from beq_iff_eq.mpr e]
      show valV (putK kvs (.inl s.1) (.str (wS s.2))) (.inl c) = some (V.str (wS s.2))
      rw [valV_put, if_pos (congrArg Sum.inl e.symm)]
    · rw [show (s.1 == c) = false from beq_eq_false_iff_ne.mpr e]
      show _ = match r.find? (fun s => s.1 == c) with | some s => some (V.str (wS s.2)) | none => valV kvs (.inl c)
      cases r.find? (fun s => s.1 == c) with
      | some q => rfl
      | none =>
        show valV (putK kvs (.inl s.1) (.str (wS s.2))) (.inl c) = valV kvs (.inl c)
        rw [valV_put, if_neg fun z => e (Sum.inl.inj z).symm]
theorem known_at {ss : List Stp} (h : (ss.map (·.1)).Nodup) (c : Int) : valV (knownM ss) (.inl c) = (ss.find? fun s => s.1 == c).map fun s => V.str (wS s.2) := by
  unfold knownM
  rw [merge_app c ss [] h fun _ _ => rfl]
  cases ss.find? (fun s => s.1 == c) <;> rfl
theorem known_in {ss : List Stp} (h : (ss.map (·.1)).Nodup) (c : Int) : (valV (knownM ss) (.inl c)).isSome = inK ss c := by
  rw [known_at h, Option.isSome_map]
  unfold inK
  refine Bool.eq_iff_iff.mpr ?_
  rw [List.find?_isSome, List.any_eq_true]
/-- what known.get(c) gives -/
def gotD (ss : List Stp) (c : Int) : PyData := match ss.find? (fun s => s.1 == c) with
  | some s => .str (wS s.2)
  | none => .none
theorem known_dp {K : PySem.W.Frag} {H : Hp} {ss : List Stp} (h : (ss.map (·.1)).Nodup) (c : Int) : Dq K H ((valV (knownM ss) (.inl c)).getD .non) (gotD ss c) := by
  rw [known_at h]
  unfold gotD
  cases ss.find? (fun s => s.1 == c) with
  | none => exact .non
  | some s => exact .str _
theorem got_eqv {ss : List Stp} (h : (ss.map (·.1)).Nodup) (s : Stp) : PyData.eqv (gotD ss s.1) (.str (wS s.2)) = decide (s ∈ ss) := by
  unfold gotD
  cases e : ss.find? (fun q => q.1 == s.1) with
  | none =>
    show false = decide (s ∈ ss)
    rw [decide_eq_false fun m => ?_]
    have := List.find?_eq_none.mp e s m
    exact this (beq_self_eq_true s.1)
  | some q =>
    have hm := List.mem_of_find?_eq_some e
    have hq : q.1 = s.1 := eq_of_beq (List.find?_some (p := fun q : Stp => q.1 == s.1) e)
    show (wS q.2 == wS s.2) = decide (s ∈ ss)
    by_cases m : s ∈ ss
    · have : q.2 = s.2 := nodup_one h (c := s.1) (by rw [← hq]; exact hm) m
      rw [this, decide_eq_true m, beq_self_eq_true]
    · rw [decide_eq_false m]
      refine beq_eq_false_iff_ne.mpr fun z => m ?_
      have : q = s := Prod.ext hq (wS_inj z)
      exact this ▸ hm
theorem got_sh (ss : List Stp) (c : Int) : SeqAt.shaped (gotD ss c) = true := by
  unfold gotD
  cases ss.find? (fun s => s.1 == c) with
  | none => decide +kernel
  | some s => exact shaped_of (wS_ok s.2) (Nat.zero_le _)
theorem sh_way (b : Bool) : SeqAt.shaped (.str (wS b)) = true := shaped_of (wS_ok b) (Nat.zero_le _)
/-- a tuple of steps, as dict() takes it -/
theorem steps_pairs {K : PySem.W.Frag} {H : Hp} : ∀ {ss : List Stp} {xs : List V}, DqAll K H xs (ss.map encStep) → ∃ ps : List Addr, xs = ps.map V.ref ∧ Paired (fun p kv => SqT K H p [kV kv.1, kv.2]) ps (kvsM ss)
  | [], _, .nil => ⟨[], rfl, .nil⟩
  | s :: r, _, .cons h t => by
    obtain ⟨ps, rfl, hp⟩ := steps_pairs t
    obtain ⟨a, o, ys, rfl, ha, _, hd⟩ := Dq.getT h
    cases hd with
    | cons h1 t1 =>
      cases t1 with
      | cons h2 t2 =>
        cases t2
        cases h1
        cases h2
        exact ⟨a :: ps, rfl, .cons (sqT_f ha) hp⟩
theorem dn_dict {K : PySem.W.Frag} {i : Nat} {ta : TE} {ρ : Rho} {ss : List Stp} (h : DE K ta ρ (encSteps ss)) : DN K (tAsg (tCB (rDictT K) (tCons ta tNil)) (gName i)) ρ (ρ.set i (.m (knownM ss))) := fun D σ H e q => h σ H _ e fun v H1 s1 d1 => by
  obtain ⟨a, o, xs, rfl, ha, hn, hd⟩ := Dq.getT d1
  obtain ⟨ps, rfl, hp⟩ := steps_pairs hd
  exact ⟨a, o, ps, kvsM ss, rfl, ha, hn, hp, fun p np => q _ _ (s1.trans (same_new np)) ((e.same (s1.trans (same_new np))).set i (s := .m (knownM ss)) ⟨p, rfl, upd_same⟩)⟩
end K3
set_option Elab.async false
set_option linter.all false
set_option maxRecDepth 100000
set_option maxHeartbeats 4000000
/-! An index turned, an index with steps more: what they serve. -/
namespace K3
open PySem PySem.Spec PyProof.Rows L2

theorem colsM_turn (ss : List Stp) : colsM (turnM ss) = colsM ss := by
  unfold colsM turnM
  rw [List.map_map]
  rfl
theorem begM_turn (ix : List Stp) : begM (turnM ix) = begM ix := by
  unfold begM
  rw [colsM_turn, show (turnM ix).length = ix.length from List.length_map ..]
theorem mem_turn {ss : List Stp} {s : Stp} : s ∈ turnM ss ↔ (s.1, !s.2) ∈ ss := by
  unfold turnM
  rw [List.mem_map]
  constructor
  · rintro ⟨q, hq, rfl⟩
    have e : (q.1, !!q.2) = q := by rw [Bool.not_not]
    show (q.1, !!q.2) ∈ ss
    rw [e]
    exact hq
  · intro h
    exact ⟨_, h, by rw [Bool.not_not]⟩
/-- all steps are in an index; all are there turned -/
def allIn (ix ss : List Stp) : Bool := ss.all fun s => decide (s ∈ ix)
theorem allIn_turn (ix ss : List Stp) : allIn (turnM ix) ss = allIn ix (turnM ss) := by
  unfold allIn turnM
  rw [List.all_map]
  congr 1
  funext s
  refine decide_eq_decide.mpr ?_
  exact mem_turn (ss := ix)
theorem turn_turn (ss : List Stp) : turnM (turnM ss) = ss := by
  unfold turnM
  rw [List.map_map]
  refine (List.map_congr_left fun s _ => ?_).trans (List.map_id ss)
  show (s.1, !!s.2) = s
  rw [Bool.not_not]
theorem wayM_eq (ix : List Stp) (l : Lk) : wayM ix l = if setsIn ix l = true then (if allIn ix l.2 = true then some true else if allIn ix (turnM l.2) = true then some false else none) else none := rfl
theorem setsIn_turn (ix : List Stp) (l : Lk) : setsIn (turnM ix) l = setsIn ix l := by
  unfold setsIn
  rw [begM_turn]
theorem wayM_turn (ix : List Stp) (l : Lk) : wayM (turnM ix) l = if setsIn ix l = true then (if allIn ix (turnM l.2) = true then some true else if allIn ix l.2 = true then some false else none) else none := by
  rw [wayM_eq, setsIn_turn, allIn_turn, allIn_turn, turn_turn]
theorem turn_some (ix : List Stp) (l : Lk) : (wayM (turnM ix) l).isSome = (wayM ix l).isSome := by
  rw [wayM_turn, wayM_eq]
  cases setsIn ix l <;> cases allIn ix l.2 <;> cases allIn ix (turnM l.2) <;> rfl
theorem turn_other {ix : List Stp} {l : Lk} (hn : (ix.map (·.1)).Nodup) (hs : l.2 ≠ []) (h : (wayM ix l).isSome = true) : wayM (turnM ix) l ≠ wayM ix l := by
  have hno : ¬ (allIn ix l.2 = true ∧ allIn ix (turnM l.2) = true) := by
    rintro ⟨h1, h2⟩
    cases e : l.2 with
    | nil => exact hs e
    | cons s r =>
      rw [e] at h1 h2
      have m1 : s ∈ ix := of_decide_eq_true (List.all_eq_true.mp h1 s List.mem_cons_self)
      have m2 : (s.1, !s.2) ∈ ix := of_decide_eq_true (List.all_eq_true.mp h2 (s.1, !s.2) List.mem_cons_self)
      have q := nodup_one hn (c := s.1) (a := s.2) (b := !s.2) m1 m2
      cases hs2 : s.2 <;> rw [hs2] at q <;> cases q
  rw [wayM_turn]
  rw [wayM_eq] at h ⊢
  cases hA : setsIn ix l
  · rw [hA] at h
    cases h
  · cases hB : allIn ix l.2 <;> cases hC : allIn ix (turnM l.2)
    · rw [hA, hB, hC] at h
      cases h
    · intro z
      cases z
    · intro z
      cases z
    · exact absurd ⟨hB, hC⟩ hno
/-- with steps more an index serves no less -/
theorem begM_app {ix more : List Stp} {x : List Int} (h : x ∈ begM ix) : x ∈ begM (ix ++ more) := by
  unfold begM at h ⊢
  obtain ⟨k, hk, rfl⟩ := List.mem_map.mp h
  have hk' := List.mem_range.mp hk
  refine List.mem_map.mpr ⟨k, List.mem_range.mpr (by rw [List.length_append]; omega), ?_⟩
  unfold colsM
  rw [List.map_append, List.take_append_of_le_length (by rw [List.length_map]; omega)]
theorem allIn_app {ix more ss : List Stp} (h : allIn ix ss = true) : allIn (ix ++ more) ss = true :=
  List.all_eq_true.mpr fun s m => decide_eq_true (List.mem_append.mpr (.inl (of_decide_eq_true (List.all_eq_true.mp h s m))))
theorem way_app {ix more : List Stp} {l : Lk} (h : (wayM ix l).isSome = true) : (wayM (ix ++ more) l).isSome = true := by
  rw [wayM_eq] at h ⊢
  by_cases h1 : setsIn ix l = true
  · have h1' : setsIn (ix ++ more) l = true := List.all_eq_true.mpr fun x m => decide_eq_true (begM_app (of_decide_eq_true (List.all_eq_true.mp h1 x m)))
    rw [if_pos h1']
    rw [if_pos h1] at h
    by_cases h2 : allIn ix l.2 = true
    · rw [if_pos (allIn_app h2)]
      rfl
    · rw [if_neg h2] at h
      by_cases h3 : allIn ix (turnM l.2) = true
      · rw [if_pos (allIn_app h3)]
        split <;> rfl
      · rw [if_neg h3] at h
        cases h
  · rw [if_neg h1] at h
    cases h
theorem mem_serv {ls : List Lk} {ix : List Stp} {x : Int} : x ∈ servM ls ix ↔ ∃ (i : Nat) (l : Lk), x = (i : Int) ∧ ls[i]? = some l ∧ (wayM ix l).isSome = true := by
  unfold servM
  rw [List.mem_map]
  constructor
  · rintro ⟨p, hp, rfl⟩
    obtain ⟨hm, hw⟩ := List.mem_filter.mp hp
    refine ⟨p.2, p.1, rfl, ?_, hw⟩
    have := List.mem_zipIdx_iff_getElem?.mp hm
    exact this
  · rintro ⟨i, l, rfl, hl, hw⟩
    exact ⟨(l, i), List.mem_filter.mpr ⟨List.mem_zipIdx_iff_getElem?.mpr hl, hw⟩, rfl⟩
theorem serv_app {ls : List Lk} {ix more : List Stp} {x : Int} (h : x ∈ servM ls ix) : x ∈ servM ls (ix ++ more) := by
  obtain ⟨i, l, e, hl, hw⟩ := mem_serv.mp h
  exact mem_serv.mpr ⟨i, l, e, hl, way_app hw⟩

/-! ### the columns that an index lacks -/
theorem pigeon : ∀ (n : Nat) (l : List Int), l.Nodup → (∀ x ∈ l, 0 ≤ x ∧ x < (n : Int)) → l.length ≤ n
  | 0, l, _, h => by
    cases l with
    | nil => exact Nat.le_refl 0
    | cons a r =>
      have := h a List.mem_cons_self
      omega
  | n + 1, l, hn, h => by
    by_cases hm : (n : Int) ∈ l
    · have ih := pigeon n (l.erase (n : Int)) (hn.erase _) fun x hx => by
        obtain ⟨h1, h2⟩ := (hn.mem_erase_iff).mp hx
        have := h x h2
        omega
      rw [List.length_erase_of_mem hm] at ih
      have : 0 < l.length := List.length_pos_of_mem hm
      omega
    · have ih := pigeon n l hn fun x hx => by
        have := h x hx
        have : x ≠ (n : Int) := fun z => hm (z ▸ hx)
        omega
      omega
def lackM (c : Nat) (ix : List Stp) : List Int := (rgD c).filter fun x => !decide (x ∈ colsM ix)
def longM (c : Nat) (ix : List Stp) : List Stp := ix ++ (lackM c ix).map fun x => (x, true)
theorem rgD_nodup (n : Nat) : (rgD n).Nodup := by
  unfold rgD
  refine List.Pairwise.map _ (fun a b h z => h (Int.ofNat.inj z)) (List.nodup_range (n := n))
theorem long_ok {c : Nat} {ix : List Stp} (hc : c ≤ 8) (h : IxOk (c : Int) ix) : IxOk (c : Int) (longM c ix) := by
  obtain ⟨⟨h1, h2, h3⟩, h4⟩ := h
  have hl : ∀ s ∈ longM c ix, 0 ≤ s.1 ∧ s.1 < (c : Int) := fun s m => by
    rcases List.mem_append.mp m with q | q
    · exact h1 s q
    · obtain ⟨x, hx, rfl⟩ := List.mem_map.mp q
      obtain ⟨i, rfl, hi⟩ := rgD_mem (List.mem_filter.mp hx).1
      exact ⟨by omega, by omega⟩
  have hm : (longM c ix).map (·.1) = ix.map (·.1) ++ lackM c ix := by
    unfold longM
    rw [List.map_append, List.map_map]
    congr 1
    exact List.map_id _
  have hn : ((longM c ix).map (·.1)).Nodup := by
    rw [hm]
    refine List.nodup_append.mpr ⟨h2, (rgD_nodup c).filter _, fun a ha b hb z => ?_⟩
    subst z
    have := (List.mem_filter.mp hb).2
    rw [decide_eq_true (show a ∈ colsM ix from ha)] at this
    cases this
  refine ⟨⟨hl, hn, ?_⟩, fun z => h4 (List.append_eq_nil_iff.mp z).1⟩
  have := pigeon c _ hn fun x hx => by
    obtain ⟨s, hs, rfl⟩ := List.mem_map.mp hx
    exact hl s hs
  rw [List.length_map] at this
  omega
theorem turn_ok {c : Int} {ix : List Stp} (h : IxOk c ix) : IxOk c (turnM ix) := by
  obtain ⟨⟨h1, h2, h3⟩, h4⟩ := h
  refine ⟨⟨fun s m => ?_, ?_, ?_⟩, fun z => h4 (List.map_eq_nil_iff.mp z)⟩
  · exact h1 (s.1, !s.2) (mem_turn.mp m)
  · have : (turnM ix).map (·.1) = ix.map (·.1) := colsM_turn ix
    rw [this]
    exact h2
  · rw [show (turnM ix).length = ix.length from List.length_map ..]
    exact h3

/-! ### the numbers gathered turn by turn -/
def dueM (ls : List Lk) (ix : List Stp) (i : Nat) : List Int := ((ls.zipIdx.take i).filter fun p => (wayM ix p.1).isSome).map fun p => (p.2 : Int)
theorem due_all (ls : List Lk) (ix : List Stp) : dueM ls ix ls.length = servM ls ix := by
  unfold dueM servM
  rw [List.take_of_length_le (by rw [List.length_zipIdx]; exact Nat.le_refl _)]
theorem due_next {ls : List Lk} {ix : List Stp} {i : Nat} {l : Lk} (h : ls[i]? = some l) : dueM ls ix (i + 1) = dueM ls ix i ++ List.replicate (if (wayM ix l).isSome = true then 1 else 0) (i : Int) := by
  unfold dueM
  have e : ls.zipIdx[i]? = some (l, i) := by
    rw [List.getElem?_zipIdx, h]
    simp
  rw [List.take_add_one, e]
  show ((ls.zipIdx.take i ++ [(l, i)]).filter _).map _ = _
  rw [List.filter_append, List.map_append, List.filter_cons]
  cases hw : (wayM ix l).isSome with
  | true => rw [if_pos rfl, if_pos rfl]; rfl
  | false => rw [if_neg (by decide), if_neg (by decide)]; rfl
theorem due_len (ls : List Lk) (ix : List Stp) (i : Nat) : (dueM ls ix i).length ≤ ls.length := by
  unfold dueM
  rw [List.length_map]
  refine Nat.le_trans (List.length_filter_le _ _) ?_
  rw [List.length_take, List.length_zipIdx]
  exact Nat.min_le_right _ _
theorem serv_len (ls : List Lk) (ix : List Stp) : (servM ls ix).length ≤ ls.length := by
  rw [← due_all]
  exact due_len ls ix _
end K3
set_option Elab.async false
set_option linter.all false
set_option maxRecDepth 100000
set_option maxHeartbeats 4000000
/-! A dict whose keys are lookups (nested tuples): made, stored into, sorted. -/
namespace K3
open PySem PySem.Spec PyProof.Rows L2
/-! ### a lookup as a key -/
def nLot (cs : List Int) : NestedKey := .tup (cs.map .num)
def nStep (s : Stp) : NestedKey := .tup [.num s.1, .text (wS s.2)]
def nSteps (ss : List Stp) : NestedKey := .tup (ss.map nStep)
def nk (l : Lk) : NestedKey := .tup [nLot l.1, nSteps l.2]
theorem map_inj {α β : Type} {f : α → β} (h : ∀ a b, f a = f b → a = b) : ∀ l m : List α, l.map f = m.map f → l = m
  | [], [], _ => rfl
  | [], _ :: _, e => nomatch e
  | _ :: _, [], e => nomatch e
  | a :: l, b :: m, e => by
    rw [List.map_cons, List.map_cons] at e
    obtain ⟨e1, e2⟩ := List.cons.inj e
    rw [h a b e1, map_inj h l m e2]
theorem nLot_inj {a b : List Int} (e : nLot a = nLot b) : a = b := map_inj (fun x y z => NestedKey.num.inj z) a b (NestedKey.tup.inj e)
theorem nStep_inj (a b : Stp) (e : nStep a = nStep b) : a = b := by
  obtain ⟨a1, a2⟩ := a
  obtain ⟨b1, b2⟩ := b
  have e1 := NestedKey.tup.inj e
  obtain ⟨e2, e3⟩ := List.cons.inj e1
  obtain ⟨e4, _⟩ := List.cons.inj e3
  have e5 : a1 = b1 := NestedKey.num.inj e2
  have e6 : a2 = b2 := wS_inj (NestedKey.text.inj e4)
  rw [e5, e6]
theorem nSteps_inj {a b : List Stp} (e : nSteps a = nSteps b) : a = b := map_inj nStep_inj a b (NestedKey.tup.inj e)
theorem nk_inj {a b : Lk} (e : nk a = nk b) : a = b := by
  obtain ⟨a1, a2⟩ := a
  obtain ⟨b1, b2⟩ := b
  have e1 := NestedKey.tup.inj e
  obtain ⟨e2, e3⟩ := List.cons.inj e1
  obtain ⟨e4, _⟩ := List.cons.inj e3
  have e5 : a1 = b1 := nLot_inj e2
  have e6 : a2 = b2 := nSteps_inj e4
  rw [e5, e6]
theorem ndep_map {α : Type} (f : α → NestedKey) {n : Nat} (h : ∀ a, (f a).depth ≤ n) : ∀ l : List α, NestedKey.depthAll (l.map f) ≤ n
  | [] => Nat.zero_le _
  | a :: l => by
    rw [List.map_cons, NestedKey.depthAll]
    exact Nat.max_le.mpr ⟨h a, ndep_map f h l⟩
theorem ndep_lot (cs : List Int) : (nLot cs).depth ≤ 1 := by
  have := ndep_map NestedKey.num (n := 0) (fun _ => by rw [NestedKey.depth]; exact Nat.le_refl _) cs
  rw [nLot, NestedKey.depth]
  omega
theorem ndep_step (s : Stp) : (nStep s).depth ≤ 1 := by
  rw [nStep, NestedKey.depth, NestedKey.depthAll, NestedKey.depthAll, NestedKey.depthAll, NestedKey.depth, NestedKey.depth]
  decide
theorem ndep_steps (ss : List Stp) : (nSteps ss).depth ≤ 2 := by
  have := ndep_map nStep ndep_step ss
  rw [nSteps, NestedKey.depth]
  omega
theorem ndep_lk (l : Lk) : (nk l).depth ≤ 8 := by
  have h1 := ndep_lot l.1
  have h2 := ndep_steps l.2
  rw [nk, NestedKey.depth, NestedKey.depthAll, NestedKey.depthAll, NestedKey.depthAll]
  omega
section
variable {P : Program} {w : World} {K : PySem.W.Frag} {H : Hp} {h : Heap}
theorem nest_at (hok : HOk P w H h) {v : V} {u : Value} {ds : List PyData} {ks : List NestedKey} (d : Dq K H v (.tuple ds)) (r : RelV v u) (all : ∀ vs us, DqAll K H vs ds → Vals vs us → NestedAll h ks us) : NestedIs h (.tup ks) u := by
  obtain ⟨a, o, xs, rfl, e, _, da⟩ := d.getT
  cases r
  obtain ⟨ho, _, its, rv, o', ho', hc, n, hd⟩ := (show ObjOk P w H h a (.frz o (.tup xs)) from hok a _ e)
  exact .tup ho' hc hd (all xs _ da rv)
theorem nest_map (hok : HOk P w H h) {α : Type} {enc : α → PyData} {f : α → NestedKey} (each : ∀ a v u, Dq K H v (enc a) → RelV v u → NestedIs h (f a) u) : ∀ (l : List α) (vs : List V) (us : List Value), DqAll K H vs (l.map enc) → Vals vs us → NestedAll h (l.map f) us
  | [], vs, us, d, r => by
    cases d
    cases r
    exact .nil
  | a :: l, vs, us, d, r => by
    cases d with
    | cons d1 d2 =>
      cases r with
      | cons r1 r2 => exact .cons (each a _ _ d1 r1) (nest_map hok each l _ _ d2 r2)
theorem nest_int (i : Int) (v : V) (u : Value) (d : Dq K H v (.int i)) (r : RelV v u) : NestedIs h (.num i) u := by
  cases d
  obtain ⟨t, rfl⟩ := r
  exact .int i t
theorem nest_lot (hok : HOk P w H h) (cs : List Int) {v : V} {u : Value} (d : Dq K H v (encLot cs)) (r : RelV v u) : NestedIs h (nLot cs) u :=
  nest_at hok d r fun vs us d r => nest_map hok nest_int cs vs us d r
theorem nest_step (hok : HOk P w H h) (s : Stp) (v : V) (u : Value) (d : Dq K H v (encStep s)) (r : RelV v u) : NestedIs h (nStep s) u :=
  nest_at hok d r fun vs us d r => by
    cases d with
    | cons d1 d2 =>
      cases d2 with
      | cons d2 d3 =>
        cases d3
        cases r with
        | cons r1 r2 =>
          cases r2 with
          | cons r2 r3 =>
            cases r3
            cases d2
            obtain ⟨t, rfl⟩ := r2
            exact .cons (nest_int _ _ _ d1 r1) (.cons (.text _ _) .nil)
theorem nest_steps (hok : HOk P w H h) (ss : List Stp) {v : V} {u : Value} (d : Dq K H v (encSteps ss)) (r : RelV v u) : NestedIs h (nSteps ss) u :=
  nest_at hok d r fun vs us d r => nest_map hok (nest_step hok) ss vs us d r
theorem nest_lk (hok : HOk P w H h) (l : Lk) {v : V} {u : Value} (d : Dq K H v (encLk l)) (r : RelV v u) : NestedIs h (nk l) u :=
  nest_at hok d r fun vs us d r => by
    cases d with
    | cons d1 d2 =>
      cases d2 with
      | cons d2 d3 =>
        cases d3
        cases r with
        | cons r1 r2 =>
          cases r2 with
          | cons r2 r3 =>
            cases r3
            exact .cons (nest_lot hok _ d1 r1) (.cons (nest_steps hok _ d2 r2) .nil)
end
/-! ### the dict -/
def nEnt (x : Lk × Addr) : NestedKey × Addr × Value := (nk x.1, x.2, .bool true)
def NestAt (P : Program) (w : World) (d : Addr) (xs : List (Lk × Addr)) (h : Heap) : Prop :=
  (d == sysModules) = false ∧ ∃ o es ep, h.get? d = some o ∧ o.ExactDict ∧ o.data = .dict es ep ∧ es.toList = (xs.map nEnt).map (entryOfKey (nestedKind P w)) ∧ ((xs.map nEnt).map (·.1)).Nodup
def nestO (P : Program) (w : World) (d : Addr) (xs : List (Lk × Addr)) : HO := .ext (NestAt P w d xs)
theorem nestAt_ok {P : Program} {w : World} {d : Addr} {xs : List (Lk × Addr)} {H : Hp} {h : Heap} (x : NestAt P w d xs h) : ObjOk P w H h d (nestO P w d xs) := by
  refine ⟨x, ?_, fun h1 h2 y e => ?_⟩
  · obtain ⟨_, o, _, _, ho, _⟩ := x
    exact ⟨o, ho⟩
  · obtain ⟨a, o, es, ep, ho, r⟩ := y
    exact ⟨a, o, es, ep, e _ ho, r⟩
def KeysN (K : PySem.W.Frag) (H : Hp) (xs : List (Lk × Addr)) : Prop := ∀ x ∈ xs, Dq K H (.ref x.2) (encLk x.1)
def putN (xs : List (Lk × Addr)) (l : Lk) (q : Addr) : List (Lk × Addr) := if l ∈ xs.map (·.1) then xs else xs ++ [(l, q)]
theorem atKey_n (xs : List (Lk × Addr)) (l : Lk) : (atKey (xs.map nEnt) (nk l)).isSome = decide (l ∈ xs.map (·.1)) := by
  induction xs with
  | nil => rfl
  | cons x xs ih =>
    rw [List.map_cons, List.map_cons]
    by_cases e : x.1 = l
    · subst e
      rw [show decide (x.1 ∈ x.1 :: xs.map (·.1)) = true from decide_eq_true (List.mem_cons_self ..)]
      simp [atKey, nEnt]
    · have hne : ¬ (nEnt x).1 = nk l := fun z => e (nk_inj z)
      have h1 : atKey (nEnt x :: xs.map nEnt) (nk l) = atKey (xs.map nEnt) (nk l) := by
        unfold atKey
        rw [List.find?_cons, decide_eq_false hne]
      rw [h1, ih]
      exact decide_eq_decide.mpr ⟨fun z => List.mem_cons_of_mem _ z, fun z => (List.mem_cons.mp z).resolve_left fun y => e y.symm⟩
theorem stored_n (xs : List (Lk × Addr)) (l : Lk) (q : Addr) : storedH (xs.map nEnt) (nk l) q (.bool true) = (putN xs l q).map nEnt := by
  unfold storedH putN
  rw [atKey_n]
  by_cases e : l ∈ xs.map (·.1)
  · rw [if_pos (by rw [decide_eq_true e]), if_pos e, List.map_map]
    refine List.map_congr_left fun x _ => ?_
    show putAt (nk l) (.bool true) (nEnt x) = nEnt x
    unfold putAt
    split <;> rfl
  · rw [if_neg (by rw [decide_eq_false e]; exact Bool.false_ne_true), if_neg e, List.map_append]
    rfl
section
variable {X : Cx} {pos : Pos}
def tDNewN (P : Program) (w : World) : TE := fun _ H Q => ∀ p, H p = none → Q (.ref p) (upd H p (nestO P w p []))
theorem pe_dnewN : PE X (.Dict [] [] pos) (tDNewN X.prog X.w) := ⟨fun pins s σ H Q I h =>
  wpAny_Dict_empty ⟨.ref s.heap.objs.size, _, I.laid (a := s.heap.objs.size) (o := nestO X.prog X.w s.heap.objs.size []) (t' := s.toks) (fun _ _ q => Heap.get?_push_of_some _ q) (Nat.le_refl _)
    (nestAt_ok ⟨beq_eq_false_iff_ne.mpr (Ne.symm (Nat.ne_of_lt I.big)), _, #[], 0, Heap.get?_push_size _ rfl, ⟨rfl, rfl, rfl⟩, rfl, rfl, List.nodup_nil⟩), rfl, h _ (I.hok.fresh (Nat.le_refl _))⟩⟩
def rSetN (P : Program) (w : World) (K : PySem.W.Frag) : TSet := fun o i v H Q => ∃ d xs l q, o = .ref d ∧ H d = some (nestO P w d xs) ∧ i = .ref q ∧ v = .bl true ∧ KeysN K H xs ∧ Dq K H (.ref q) (encLk l) ∧ xs.length ≤ 1000 ∧ Q (upd H d (nestO P w d (putN xs l q)))
theorem set_nested (hu : X.A.units + 64 < cLine) : PSet X (rSetN X.prog X.w X.K) := by
  intro pins s σ H o i v ov iv u Q I ro ri rv h
  obtain ⟨d, xs, l, q, rfl, hd, rfl, rfl, hk, hl, hz, h⟩ := h
  cases (show ov = Value.ref d from ro)
  cases (show iv = Value.ref q from ri)
  cases (show u = Value.bool true from rv)
  obtain ⟨⟨lo, ob, es, ep, ho, hx, hdt, he, hn⟩, _, _⟩ := (show ObjOk X.prog X.w H s.heap d (.ext (NestAt X.prog X.w d xs)) from I.hok d _ hd)
  have hm : s.heap.DictOfH (nestedKind X.prog X.w) d (xs.map nEnt) := ⟨ob, es, ep, ho, hx, hdt, he, fun x hx => by
    obtain ⟨y, hy, rfl⟩ := List.mem_map.mp hx
    exact ⟨nest_lk I.hok y.1 (hk y hy) rfl, ndep_lk y.1⟩, hn⟩
  have hkey : (nestedKind X.prog X.w).is s.heap (nk l) q := ⟨nest_lk I.hok l hl rfl, ndep_lk l⟩
  have hroom : (nestedKind X.prog X.w).room X.A.in1 := by
    show X.A.in1.units + 8 < cLine
    have : X.A.in1.units = X.A.units + 1 := rfl
    omega
  refine wpAny_setItem_heap (hsz := by rw [List.length_map]; exact sz_line hz) hroom hkey hm fun h' hm' hs => ?_
  rw [stored_n] at hm'
  obtain ⟨o', es', ep', ho', hx', hd', he', _, hn'⟩ := hm'
  exact ⟨_, d_write I (by rw [hd]; exact True.intro) hs ⟨o', ho'⟩ (nestAt_ok ⟨lo, o', es', ep', ho', hx', hd', he', hn'⟩), h⟩
/-! ### sorted(d) -/
def rSortN (P : Program) (w : World) (K : PySem.W.Frag) : List V → Hp → VK → Prop := fun vs H Q => ∃ d xs, vs = [.ref d] ∧ H d = some (nestO P w d xs) ∧ KeysN K H xs ∧ xs.length ≤ 1000 ∧
  ∀ (p : Addr) (ys : List (Lk × Addr)), H p = none → ys.Perm xs → ys.Pairwise (fun a b => ltLk b.1 a.1 = false) → Q (.ref p) (upd H p (.lst (ys.map fun y => .ref y.2)))
theorem each_refs {out : List Value} : ∀ {ys : List (Lk × Addr)}, PySem.W.EachIs (fun v y => v = Value.ref y.2) out ys → out = ys.map fun y => Value.ref y.2 := by
  intro ys e
  induction e with
  | nil => rfl
  | cons h _ ih => rw [List.map_cons, h, ih]
theorem refs_each : ∀ ys : List (Lk × Addr), PySem.W.EachIs (fun v y => v = Value.ref y.2) (ys.map fun y => Value.ref y.2) ys
  | [] => .nil
  | _ :: ys => .cons rfl (refs_each ys)
theorem refs_vals : ∀ ys : List (Lk × Addr), Vals (ys.map fun y => V.ref y.2) (ys.map fun y => Value.ref y.2)
  | [] => .nil
  | _ :: ys => .cons rfl (refs_vals ys)
theorem refs_reads {h : Heap} : ∀ ys : List (Lk × Addr), (∀ y ∈ ys, ∃ as, Reads h (.ref y.2) (encLk y.1) as) → PySem.W.EachIs (fun v (y : Lk × Addr) => ∃ as, Reads h v (encLk y.1) as) (ys.map fun y => Value.ref y.2) ys
  | [], _ => .nil
  | y :: ys, h => .cons (h y (List.mem_cons_self ..)) (refs_reads ys fun z hz => h z (List.mem_cons_of_mem _ hz))
theorem cr_sortedN (hcalm : X.calm = true) (hu : X.A.units + 100 < cLine) : CallR X (.builtin "sorted") (rSortN X.prog X.w X.K) := by
  intro pins s σ H xs us Q I r q
  obtain ⟨d, xs, ex, hd, hk, hz, q⟩ := q
  subst ex
  obtain ⟨u, eu, rx⟩ := vals1 r
  subst eu
  cases rx
  obtain ⟨⟨lo, ob, es, ep, ho, hx, hdt, he, hn⟩, _, _⟩ := (show ObjOk X.prog X.w H s.heap d (.ext (NestAt X.prog X.w d xs)) from I.hok d _ hd)
  have l1 : es.size = xs.length := by rw [size_of_entries he, List.length_map]
  refine Calls.call_function_entry PyProof.Rows.kind_sorted PyProof.Rows.plain_sorted PyProof.Rows.entry_sorted (PyProof.Rows.args_sorted1 _) ?_
  unfold Builtin.«sorted»
  refine wpAny_bind (m := checkCount "sorted" 1 1 _) (wpAny_pure ?_)
  refine wpAny_bind (PySem.W.kdu_collect (A := X.A.in1) (kdl_raw lo hx hdt) (I.ok.hd hcalm) ho (by rw [l1]; exact sz_line hz) fun h' tk acc hk' hacc => ?_)
  have ea : acc.toList = xs.map fun y => Value.ref y.2 := by
    have hl : acc.toList.length = xs.length := by rw [Array.length_toList, hacc.1]; exact l1
    apply List.ext_getElem?
    intro j
    rw [List.getElem?_map]
    cases hj : acc.toList[j]? with
    | none =>
      have h1 := List.getElem?_eq_none_iff.mp hj
      rw [List.getElem?_eq_none (by omega)]
      rfl
    | some v =>
      obtain ⟨en, hen, hv⟩ := hacc.2 j v (by rw [← Array.getElem?_toList]; exact hj)
      have qe := entry_at he j
      rw [hen, List.getElem?_map] at qe
      cases hb : xs[j]? with
      | none =>
        rw [hb] at qe
        cases qe
      | some b =>
        rw [hb] at qe
        have e2 : en = entryOfKey (nestedKind X.prog X.w) (nEnt b) := Option.some.inj qe
        rw [hv, e2]
        rfl
  rw [ea]
  have hln : (xs.map fun y => Value.ref y.2).length ≤ sizeLine := by rw [List.length_map]; exact sz_line hz
  have I1 : Inv X pins σ H { s with heap := h', toks := tk } := I.kept hk'
  refine wpAny_bind (wpAny_newList ?_ hln)
  have hoL : (h'.push (seqObj "list" (xs.map fun y => Value.ref y.2).toArray 0)).get? h'.objs.size = some (seqObj "list" (xs.map fun y => Value.ref y.2).toArray 0) := Heap.get?_push_size _ rfl
  show wpAny _ _ _ _ _ { s with heap := h'.push (seqObj "list" (xs.map fun y => Value.ref y.2).toArray 0), toks := tk }
  have er : PySem.W.EachIs (fun v (y : Lk × Addr) => ∃ as, Reads (PySem.W.sortingHeap (h'.push (seqObj "list" (xs.map fun y => Value.ref y.2).toArray 0)) h'.objs.size (xs.map fun y => Value.ref y.2)) v (encLk y.1) as) (xs.map fun y => Value.ref y.2) xs :=
    refs_reads xs fun y hy => by
      obtain ⟨as, hr⟩ := Dp.reads I1 (encLk y.1) _ _ ((hk y hy).dp) (show RelV (.ref y.2) (Value.ref y.2) from rfl)
      exact ⟨as, PyProof.Rows.Reads.keeps (fun b o e => PySem.W.sortingHeap_old (Nat.ne_of_lt (Heap.lt_size e)) (Heap.get?_push_of_some _ e)) hr⟩
  have hal : PySem.W.AllAlike (xs.map fun y => encLk y.1) := PySem.W.AllAlike.of (enc := fun y : Lk × Addr => encLk y.1) fun b b' => alike_lk _ _
  have S := PySem.W.SortsAt.data (prog := X.prog) (w := X.w) (A := X.A.in1.in1) (s := { s with heap := PySem.W.sortingHeap (h'.push (seqObj "list" (xs.map fun y => Value.ref y.2).toArray 0)) h'.objs.size (xs.map fun y => Value.ref y.2), toks := tk })
    (PySem.W.each_map (R := fun v d => ∃ as, Reads (PySem.W.sortingHeap (h'.push (seqObj "list" (xs.map fun y => Value.ref y.2).toArray 0)) h'.objs.size (xs.map fun y => Value.ref y.2)) v d as) (fun y : Lk × Addr => encLk y.1) er) hal
    (PySem.W.Sortable.tuples fun b => ⟨_, _, rfl⟩) (PySem.W.bound_map (enc := fun y : Lk × Addr => encLk y.1) fun b _ => by
      have := dep_lk b.1
      have e : X.A.in1.in1.units = X.A.units + 2 := rfl
      show X.A.in1.in1.units + (encLk b.1).depth < cLine
      omega)
  refine wpAny_bind (wpAny_holding (wpAny_call_entry PyProof.Rows.slot_list_sort ⟨_, hoL, rfl⟩ PyProof.Rows.entry_list_sort
    (PySem.W.list_sort_vals (s := { s with heap := h'.push (seqObj "list" (xs.map fun y => Value.ref y.2).toArray 0), toks := tk }) hoL S hln ⟨_, rfl, ?_⟩)
    (PyProof.Rows.args_list_sort _)))
  have hout := PySem.W.sortVals_data (enc := fun y : Lk × Addr => encLk y.1) false (refs_each xs) er hal
  have eo := each_refs hout
  rw [eo]
  obtain ⟨e', he'⟩ := PyProof.Rows.sortedHeap_at (vs := xs.map fun y => Value.ref y.2) (out := ((xs.mergeSort (PySem.W.dataLe false fun y : Lk × Addr => encLk y.1)).map fun y => Value.ref y.2).toArray) hoL
  have hp := List.mergeSort_perm xs (PySem.W.dataLe false fun y : Lk × Addr => encLk y.1)
  have hlen : ((xs.mergeSort (PySem.W.dataLe false fun y : Lk × Addr => encLk y.1)).map fun y => V.ref y.2).length ≤ sizeLine := by
    rw [List.length_map, hp.length_eq]
    exact sz_line hz
  have hsort := PySem.W.sort_pairwise (PySem.W.sortLe_total (PyProof.Rows.listOrd PyProof.Rows.itemOrd) false fun y : Lk × Addr => PySem.W.keyToks (encLk y.1)) xs
  refine wpAny_pure ⟨_, rfl, .ref h'.objs.size, _, I1.laid (t' := tk) (o := .lst ((xs.mergeSort (PySem.W.dataLe false fun y : Lk × Addr => encLk y.1)).map fun y => V.ref y.2)) (fun b u e => ?_) (Nat.le_refl _)
    (show ObjOk X.prog X.w _ _ _ (.lst _) from ⟨hlen, _, e', refs_vals _, he'⟩), rfl, q _ _ (I1.hok.fresh (Nat.le_refl _)) hp (hsort.imp fun {a b} z => ?_)⟩
  · have hb : b < h'.objs.size := Heap.lt_size e
    rw [PyProof.Rows.sortedHeap_old (Nat.ne_of_lt hb) (by rw [size_push']; exact Nat.lt_succ_of_lt hb)]
    exact Heap.get?_push_of_some _ e
  · have z' : (!ltLk b.1 a.1) = true := z
    exact Bool.not_eq_true' _ ▸ z'
end
/-! ### the order -/
theorem eqv_lk (a b : Lk) : PyData.eqv (encLk a) (encLk b) = decide (a = b) := by
  show PyData.eqvAll [encLot a.1, encSteps a.2] [encLot b.1, encSteps b.2] = _
  rw [PySem.W.eqv_all_cons, PySem.W.eqv_all_cons, eqv_lot, eqv_steps, show PyData.eqvAll [] [] = true from rfl, Bool.and_true, ← Bool.decide_and]
  exact decide_eq_decide.mpr ⟨fun z => Prod.ext z.1 z.2, fun z => by subst z; exact ⟨rfl, rfl⟩⟩
theorem lt_of_le_ne {a b : Lk} (h : ltLk b a = false) (hne : a ≠ b) : ltLk a b = true := by
  cases e : ltLk a b with
  | true => rfl
  | false =>
    exfalso
    have ek : PySem.W.keyToks (encLk a) = PySem.W.keyToks (encLk b) := PyProof.Rows.lex_total _ _ e h
    have hv : PyData.eqv (encLk a) (encLk b) = false := (eqv_lk a b).trans (decide_eq_false hne)
    have h1 := (PySem.W.toks_eqv (encLk a) (encLk b) (alike_lk a b)).2 hv [] [.inl 0]
    rw [ek, List.append_nil, PyProof.Rows.lex_irrefl] at h1
    have h2 := PySem.W.lex_pre (PySem.W.keyToks (encLk b)) [] [.inl 0]
    rw [List.append_nil] at h2
    rw [h2] at h1
    cases h1
end K3
set_option Elab.async false
set_option linter.all false
set_option maxRecDepth 100000
set_option maxHeartbeats 4000000
/-! The state of the draws: a dict that holds two lists and a number; what a step may do to it. -/
namespace K3
open PySem PySem.Spec PyProof.Rows L2
/-! ### the state in the heap -/
/-- how many draws there can be -/
def BIG : Nat := 1000000
def kvS (c l : Addr) (n : Int) : List (Key × V) := [(.inr "cells", .ref c), (.inr "lefts", .ref l), (.inr "at", .int n), (.inr "room", .int 0)]
def StI (a c l : Addr) (n : Nat) (H : Hp) : Prop := H a = some (.dK (kvS c l (n : Int))) ∧ c ≠ l ∧ ∃ cs ls : List Int, H c = some (.lst (cs.map V.int)) ∧ H l = some (.lst (ls.map V.int)) ∧ 1 ≤ cs.length ∧ cs.length ≤ 63 ∧ ls.length = cs.length
/-- nothing but the state's own has changed -/
def EvS (a l : Addr) (H H' : Hp) : Prop := ∀ b o, b ≠ a → b ≠ l → H b = some o → H' b = some o
theorem EvS.refl {a l : Addr} (H : Hp) : EvS a l H H := fun _ _ _ _ e => e
theorem EvS.trans {a l : Addr} {H H1 H2 : Hp} (h : EvS a l H H1) (k : EvS a l H1 H2) : EvS a l H H2 := fun b o x y e => k b o x y (h b o x y e)
theorem EvS.of {a l : Addr} {H H' : Hp} (h : Same H H') : EvS a l H H' := fun b o _ _ e => h b o e
theorem StI.same {a c l : Addr} {n : Nat} {H H' : Hp} (h : StI a c l n H) (e : Same H H') : StI a c l n H' := by
  obtain ⟨h1, h2, cs, ls, h3, h4, r⟩ := h
  exact ⟨e _ _ h1, h2, cs, ls, e _ _ h3, e _ _ h4, r⟩
theorem StI.samT {a c l : Addr} {n : Nat} {H H' : Hp} (h : StI a c l n H) (e : EvS a l H H') : SameT H H' := by
  obtain ⟨h1, h2, cs, ls, h3, h4, r⟩ := h
  refine ⟨fun b xs hb => e b _ ?_ ?_ hb, fun b o u hb => e b _ ?_ ?_ hb⟩
  · rintro rfl
    rw [h1] at hb
    cases hb
  · rintro rfl
    rw [h4] at hb
    cases hb
  · rintro rfl
    rw [h1] at hb
    cases hb
  · rintro rfl
    rw [h4] at hb
    cases hb
/-- other things that are no state stay -/
theorem StI.keep {a c l : Addr} {n : Nat} {H H' : Hp} (h : StI a c l n H) (e : EvS a l H H') {b : Addr} {o : HO} (hb : H b = some o) (h1 : ∀ kvs, o ≠ .dK kvs) (h2 : b ≠ l) : H' b = some o := e b o (by
  rintro rfl
  rw [h.1] at hb
  exact h1 _ (Option.some.inj hb).symm) h2 hb
section
variable {K : PySem.W.Frag} {H H' : Hp} {σ : L2.St} {ρ : Rho}
/-! ### slots of data that no write touches -/
def SlF : Sl → Prop
  | .no => True
  | .d x => frz x = true
  | .m _ => False
def FrzR (ρ : Rho) : Prop := ∀ s ∈ ρ, SlF s
theorem FrzR.nil : FrzR [] := fun _ h => nomatch h
theorem FrzR.cons {s : Sl} (h : SlF s) (k : FrzR ρ) : FrzR (s :: ρ) := fun t m => (List.mem_cons.mp m).elim (fun e => e ▸ h) (k t)
theorem FrzR.set (k : FrzR ρ) {i : Nat} {s : Sl} (h : SlF s) : FrzR (ρ.set i s) := fun t m => (List.mem_or_eq_of_mem_set m).elim (k t) fun e => e ▸ h
theorem FrzR.wipe (k : FrzR ρ) : ∀ vs : List Nat, FrzR (wipeR ρ vs)
  | [] => k
  | v :: vs => (FrzR.wipe k vs).set trivial
theorem FrzR.app {ρ' : Rho} (h : FrzR ρ) (k : FrzR ρ') : FrzR (ρ ++ ρ') := fun t m => (List.mem_append.mp m).elim (h t) (k t)
theorem FrzR.rep (n : Nat) : FrzR (List.replicate n Sl.no) := fun t m => by
  rw [(List.mem_replicate.mp m).2]
  trivial
theorem EnvD.st (h : EnvD K H σ ρ) (e : SameT H H') (f : FrzR ρ) : EnvD K H' σ ρ := ⟨h.len, fun i o s a b => by
  have hs := f s (List.mem_of_getElem? b)
  have k := h.at_ i o s a b
  cases s with
  | no => trivial
  | d x =>
    obtain ⟨v, h1, h2⟩ := k
    exact ⟨v, h1, dp_st e h2 hs⟩
  | m kvs => exact hs.elim⟩
end
/-! ### what comes to what, over the state -/
structure Sx where
  i : Nat
  a : Addr
  c : Addr
  l : Addr
structure Nw (K : PySem.W.Frag) (S : Sx) (ρ : Rho) (σ : L2.St) (H : Hp) (n : Nat) : Prop where
  env : EnvD K H σ ρ
  fz : FrzR ρ
  slot : σ[S.i]? = some (some (.ref S.a))
  st : StI S.a S.c S.l n H
theorem Nw.same {K : PySem.W.Frag} {S : Sx} {ρ : Rho} {σ : L2.St} {H H' : Hp} {n : Nat} (h : Nw K S ρ σ H n) (e : Same H H') : Nw K S ρ σ H' n := ⟨h.env.same e, h.fz, h.slot, h.st.same e⟩
theorem Nw.ev {K : PySem.W.Frag} {S : Sx} {ρ : Rho} {σ : L2.St} {H H' : Hp} {n n' : Nat} (h : Nw K S ρ σ H n) (e : EvS S.a S.l H H') (s : StI S.a S.c S.l n' H') : Nw K S ρ σ H' n' := ⟨h.env.st (h.st.samT e) h.fz, h.fz, h.slot, s⟩
def SE (K : PySem.W.Frag) (S : Sx) (te : TE) (ρ : Rho) (k : Nat) (R : PyData → Prop) : Prop := ∀ (σ : L2.St) (H : Hp) (Q : VK) (n : Nat), n + k ≤ BIG → Nw K S ρ σ H n →
  (∀ v H' r n', n' ≤ n + k → EvS S.a S.l H H' → StI S.a S.c S.l n' H' → R r → Dq K H' v r → Q v H') → te σ H Q
def SA (K : PySem.W.Frag) (S : Sx) (ta : TA) (ρ : Rho) (k : Nat) (R : List PyData → Prop) : Prop := ∀ (σ : L2.St) (H : Hp) (Q : List V → Hp → Prop) (n : Nat), n + k ≤ BIG → Nw K S ρ σ H n →
  (∀ vs H' rs n', n' ≤ n + k → EvS S.a S.l H H' → StI S.a S.c S.l n' H' → R rs → DqAll K H' vs rs → Q vs H') → ta σ H Q
def SB (K : PySem.W.Frag) (S : Sx) (t : TT) (ρ : Rho) (k : Nat) (R : Bool → Prop) : Prop := ∀ (σ : L2.St) (H : Hp) (Q : Bool → Hp → Prop) (n : Nat), n + k ≤ BIG → Nw K S ρ σ H n →
  (∀ b H' n', n' ≤ n + k → EvS S.a S.l H H' → StI S.a S.c S.l n' H' → R b → Q b H') → t σ H Q
def SN (K : PySem.W.Frag) (S : Sx) (t : TS) (ρ : Rho) (k : Nat) (G : Rho → Prop) : Prop := ∀ (D : Ends) (σ : L2.St) (H : Hp) (n : Nat), n + k ≤ BIG → Nw K S ρ σ H n →
  (∀ σ' H' ρ' n', n' ≤ n + k → EvS S.a S.l H H' → G ρ' → Nw K S ρ' σ' H' n' → D.nx σ' H') → t D σ H
def SR (K : PySem.W.Frag) (S : Sx) (t : TS) (ρ : Rho) (k : Nat) (R : PyData → Prop) : Prop := ∀ (D : Ends) (σ : L2.St) (H : Hp) (n : Nat), n + k ≤ BIG → Nw K S ρ σ H n →
  (∀ v H' r n', n' ≤ n + k → EvS S.a S.l H H' → StI S.a S.c S.l n' H' → R r → Dq K H' v r → D.rt v H') → t D σ H
section
variable {K : PySem.W.Frag} {S : Sx} {ρ ρ1 ρ' : Rho} {ta tb te : TE} {t u : TT} {ts tu : TS} {x y z d : PyData} {r : R2} {k k' k1 k2 : Nat} {R R' : PyData → Prop}
theorem SE.w (h : SE K S te ρ k R) (hk : k ≤ k') (hR : ∀ r, R r → R' r) : SE K S te ρ k' R' := fun σ H Q n hn e q => h σ H Q n (by omega) e fun v H' r n' a b c d f => q v H' r n' (by omega) b c (hR r d) f
theorem SA.w {R R' : List PyData → Prop} {ta : TA} (h : SA K S ta ρ k R) (hk : k ≤ k') (hR : ∀ r, R r → R' r) : SA K S ta ρ k' R' := fun σ H Q n hn e q => h σ H Q n (by omega) e fun v H' r n' a b c d f => q v H' r n' (by omega) b c (hR r d) f
theorem SR.w (h : SR K S ts ρ k R) (hk : k ≤ k') (hR : ∀ r, R r → R' r) : SR K S ts ρ k' R' := fun D σ H n hn e q => h D σ H n (by omega) e fun v H' r n' a b c d f => q v H' r n' (by omega) b c (hR r d) f
theorem se_pure (h : DE K te ρ d) : SE K S te ρ 0 (· = d) := fun σ H Q n _ e q => h σ H Q e.env fun v H' s hd => q v H' d n (by omega) (.of s) (e.st.same s) rfl hd
theorem sa_pure {ta : TA} {ds : List PyData} (h : DA K ta ρ ds) : SA K S ta ρ 0 (· = ds) := fun σ H Q n _ e q => h σ H Q e.env fun v H' s hd => q v H' ds n (by omega) (.of s) (e.st.same s) rfl hd
theorem sb_pure {b : Bool} (h : DT K t ρ b) : SB K S t ρ 0 (· = b) := fun σ H Q n _ e q => h σ H Q e.env fun H' s => q b H' n (by omega) (.of s) (e.st.same s) rfl
/-- the first argument draws, the rest is plain -/
theorem sa_head {tr : TA} {ds : List PyData} (h : SE K S te ρ k R) (ht : DA K tr ρ ds) : SA K S (tCons te tr) ρ k (fun zs => ∃ x, R x ∧ zs = x :: ds) := fun σ H Q n hn e q => h σ H _ n hn e fun v H1 r n1 a b c d f =>
  ht σ H1 _ (e.ev b c).env fun vs H2 s2 d2 => q _ H2 _ n1 a (b.trans (.of s2)) (c.same s2) ⟨r, d, rfl⟩ (.cons (dp_same s2 f) d2)
/-- the first is plain, the rest draws -/
theorem sa_tail {tr : TA} {R : List PyData → Prop} (h : DE K te ρ d) (hf : frz d = true) (ht : SA K S tr ρ k R) : SA K S (tCons te tr) ρ k (fun zs => ∃ ys, R ys ∧ zs = d :: ys) := fun σ H Q n hn e q => h σ H _ e.env fun v H1 s1 d1 =>
  ht σ H1 _ n hn (e.same s1) fun vs H2 rs n2 a b c g f => q _ H2 _ n2 a ((EvS.of s1).trans b) c ⟨rs, g, rfl⟩ (.cons (dp_st ((e.st.same s1).samT b) d1 hf) f)
theorem se_tup {tr : TA} {R : List PyData → Prop} (h : SA K S tr ρ k R) (hl : ∀ ds, R ds → ds.length ≤ 1000) : SE K S (tTupF tr) ρ k (fun z => ∃ ds, R ds ∧ z = .tuple ds) := fun σ H Q n hn e q => h σ H _ n hn e fun vs H1 rs n1 a b c g f =>
  ⟨by rw [f.len]; exact sz_line (hl _ g), fun p o no np => q _ _ _ n1 a (b.trans (.of (same_new np))) (c.same (same_new np)) ⟨rs, g, rfl⟩ (.tup upd_same no (dpAll_same (same_new np) f))⟩
theorem se_cb {rr : List V → Hp → VK → Prop} {tr : TA} {R : List PyData → Prop} (h : SA K S tr ρ k R) (hr : ∀ ds, R ds → ∃ z, DC K rr ds z ∧ R' z) : SE K S (tCB rr tr) ρ k R' := fun σ H Q n hn e q => h σ H _ n hn e fun vs H1 rs n1 a b c g f => by
  obtain ⟨z, h1, h2⟩ := hr rs g
  exact h1 H1 vs Q f fun w H2 s2 d2 => q w H2 z n1 a (b.trans (.of s2)) (c.same s2) h2 d2
theorem se_opL (h : SE K S ta ρ k R) (hb : DE K tb ρ y) (hr : ∀ x, R x → ∃ z, DR2 K r x y z ∧ R' z) : SE K S (tOp r ta tb) ρ k R' := fun σ H Q n hn e q => h σ H _ n hn e fun v H1 x n1 a b c g f =>
  hb σ H1 _ (e.ev b c).env fun w H2 s2 d2 => by
    obtain ⟨z, h1, h2⟩ := hr x g
    exact h1 H2 v w Q (dp_same s2 f) d2 fun w H3 s3 d3 => q w H3 z n1 a (b.trans (.of (s2.trans s3))) (c.same (s2.trans s3)) h2 d3
theorem se_opR (h : DE K ta ρ x) (hf : frz x = true) (hb : SE K S tb ρ k R) (hr : ∀ y, R y → ∃ z, DR2 K r x y z ∧ R' z) : SE K S (tOp r ta tb) ρ k R' := fun σ H Q n hn e q => h σ H _ e.env fun v H1 s1 d1 =>
  hb σ H1 _ n hn (e.same s1) fun w H2 y n2 a b c g f => by
    obtain ⟨z, h1, h2⟩ := hr y g
    exact h1 H2 v w Q (dp_st ((e.st.same s1).samT b) d1 hf) f fun w H3 s3 d3 => q w H3 z n2 a (((EvS.of s1).trans b).trans (.of s3)) (c.same s3) h2 d3
theorem sb_test (h : SE K S te ρ k R) (hr : ∀ r, R r → ∃ b, r = .bool b) : SB K S (tTest te) ρ k (fun _ => True) := fun σ H Q n hn e q => h σ H _ n hn e fun v H1 x n1 a b c g f => by
  obtain ⟨w, rfl⟩ := hr x g
  exact ⟨w, f.getB, q w H1 n1 a b c trivial⟩
theorem sb_testB {p : Bool → Prop} (h : SE K S te ρ k R) (hr : ∀ r, R r → ∃ b, r = .bool b ∧ p b) : SB K S (tTest te) ρ k p := fun σ H Q n hn e q => h σ H _ n hn e fun v H1 x n1 a b c g f => by
  obtain ⟨w, rfl, hp⟩ := hr x g
  exact ⟨w, f.getB, q w H1 n1 a b c hp⟩
theorem sb_testV {p : Bool → Prop} (h : SE K S te ρ k R) (hr : ∀ r, R r → ∃ b, r = .bool b ∧ p b) : SB K S (tB te) ρ k p := fun σ H Q n hn e q => h σ H _ n hn e fun v H1 x n1 a b c g f => by
  obtain ⟨w, rfl, hp⟩ := hr x g
  exact ⟨w, f.getB, q w H1 n1 a b c hp⟩
theorem sb_not {p : Bool → Prop} (h : SB K S t ρ k p) : SB K S (tNot t) ρ k (fun b => p (!b)) := fun σ H Q n hn e q => h σ H _ n hn e fun b H1 n1 x y z g => q _ H1 n1 x y z (by show p (!!b); rw [Bool.not_not]; exact g)
theorem sb_or {b : Bool} {p : Bool → Prop} (h : DT K t ρ b) (hu : b = false → SB K S u ρ k p) : SB K S (tOr t u) ρ k (fun c => (b = true ∧ c = true) ∨ (b = false ∧ p c)) := fun σ H Q n hn e q => h σ H _ e.env fun H1 s1 => by
  cases b with
  | true => exact iteT (q true H1 n (by omega) (.of s1) (e.st.same s1) (.inl ⟨rfl, rfl⟩))
  | false => exact iteF (hu rfl σ H1 Q n hn (e.same s1) fun c H2 n2 a b g f => q c H2 n2 a ((EvS.of s1).trans b) g (.inr ⟨rfl, f⟩))
theorem se_if {p : Bool → Prop} (h : SB K S t ρ k1 p) (h1 : p true → SE K S ta ρ k2 R) (h2 : p false → SE K S tb ρ k2 R) : SE K S (tIf t ta tb) ρ (k1 + k2) R := fun σ H Q n hn e q => h σ H _ n (by omega) e fun b H1 n1 x y z g => by
  cases b with
  | true => exact iteT (h1 g σ H1 Q n1 (by omega) (e.ev y z) fun v H2 r n2 a b c d f => q v H2 r n2 (by omega) (y.trans b) c d f)
  | false => exact iteF (h2 g σ H1 Q n1 (by omega) (e.ev y z) fun v H2 r n2 a b c d f => q v H2 r n2 (by omega) (y.trans b) c d f)
/-- a plain def of arguments that draw -/
theorem se_callP {F : List PyData → PyData → Prop} {E : XK} {tr : TA} {R : List PyData → Prop} (h : SA K S tr ρ k R) (hF : ∀ ds, R ds → ∃ z, F ds z ∧ R' z) : SE K S (tCall (spF K F) [] E tr) ρ k R' := fun σ H Q n hn e q => h σ H _ n hn e fun vs H1 rs n1 a b c g f => by
  obtain ⟨z, h1, h2⟩ := hF rs g
  exact ⟨rs, z, by rw [List.append_nil]; exact f, h1, fun v H2 s2 d2 => q v H2 z n1 a (b.trans (.of s2)) (c.same s2) h2 d2⟩
/-! the promise of a def that draws: its first argument is the state -/
def spS (K : PySem.W.Frag) (pre : List PyData → Prop) (cost : Nat) (post : List PyData → PyData → Prop) : Sp := fun vs H Q _ => ∃ a c l n us ds, vs = .ref a :: us ∧ DqAll K H us ds ∧ StI a c l n H ∧ pre ds ∧ n + cost ≤ BIG ∧
  ∀ v H' r n', n' ≤ n + cost → EvS a l H H' → StI a c l n' H' → post ds r → Dq K H' v r → Q v H'
theorem se_call {pre : List PyData → Prop} {cost : Nat} {post : List PyData → PyData → Prop} {E : XK} {tr : TA} {R : List PyData → Prop} (h : SA K S tr ρ k R) (hF : ∀ ds, R ds → pre ds ∧ ∀ r, post ds r → R' r) :
    SE K S (tCall (spS K pre cost post) [] E (tCons (tVar S.i) tr)) ρ (k + cost) R' := fun σ H Q n hn e q => ⟨_, e.slot, h σ H _ n (by omega) e fun vs H1 rs n1 a b c g f =>
    ⟨S.a, S.c, S.l, n1, vs, rs, by rw [List.append_nil], f, c, (hF rs g).1, by omega, fun v H2 r n2 a2 b2 c2 d2 f2 => q v H2 r n2 (by omega) (b.trans b2) c2 ((hF rs g).2 r d2) f2⟩⟩
/-! blocks -/
theorem sn_set {i : Nat} (h : SE K S te ρ k R) (hi : i ≠ S.i) (hf : ∀ r, R r → frz r = true) : SN K S (tAsg te (gName i)) ρ k (fun ρ' => ∃ r, R r ∧ ρ' = ρ.set i (.d r)) := fun D σ H n hn e q => h σ H _ n hn e fun v H1 r n1 a b c d f => by
  have e1 := e.ev b c
  refine q _ H1 _ n1 a b ⟨r, d, rfl⟩ ⟨e1.env.set i (s := .d r) ⟨v, rfl, f⟩, e1.fz.set (hf r d), ?_, c⟩
  rw [List.getElem?_set_ne hi]
  exact e.slot
theorem sn_seq {G G' : Rho → Prop} (h : SN K S ts ρ k1 G) (hu : ∀ ρ', G ρ' → SN K S tu ρ' k2 G') : SN K S (tSeq ts tu) ρ (k1 + k2) G' := fun D σ H n hn e q => h { D with nx := tu D } σ H n (by omega) e fun σ1 H1 ρ1 n1 a b g e1 =>
  hu ρ1 g D σ1 H1 n1 (by omega) e1 fun σ2 H2 ρ2 n2 a2 b2 g2 e2 => q σ2 H2 ρ2 n2 (by omega) (b.trans b2) g2 e2
theorem sr_seq {G : Rho → Prop} (h : SN K S ts ρ k1 G) (hu : ∀ ρ', G ρ' → SR K S tu ρ' k2 R) : SR K S (tSeq ts tu) ρ (k1 + k2) R := fun D σ H n hn e q => h { D with nx := tu D } σ H n (by omega) e fun σ1 H1 ρ1 n1 a b g e1 =>
  hu ρ1 g D σ1 H1 n1 (by omega) e1 fun v H2 r n2 a2 b2 c2 d2 f2 => q v H2 r n2 (by omega) (b.trans b2) c2 d2 f2
theorem sr_ret (h : SE K S te ρ k R) : SR K S (tRet te) ρ k R := fun D σ H n hn e q => h σ H _ n hn e q
/-- the rest of a block that draws no more -/
theorem sr_pure (h : DR K ts ρ d) : SR K S ts ρ 0 (· = d) := fun D σ H n _ e q => h D σ H e.env fun v H' s hd => q v H' d n (by omega) (.of s) (e.st.same s) rfl hd
theorem sr_guard {p : Bool → Prop} (h : SB K S t ρ k1 p) (h1 : p true → SE K S te ρ k2 R) (h2 : p false → SR K S tu ρ k2 R) : SR K S (tSeq (tIfS t (tRet te) tNext) tu) ρ (k1 + k2) R := fun D σ H n hn e q => h σ H _ n (by omega) e fun b H1 n1 x y z g => by
  cases b with
  | true => exact iteT (h1 g σ H1 D.rt n1 (by omega) (e.ev y z) fun v H2 r n2 a b c d f => q v H2 r n2 (by omega) (y.trans b) c d f)
  | false => exact iteF (h2 g D σ H1 n1 (by omega) (e.ev y z) fun v H2 r n2 a b c d f => q v H2 r n2 (by omega) (y.trans b) c d f)
/-! ### a comprehension over range(m) whose test draws -/
theorem se_lc {i : Nat} {m : Nat} {tr : TA} (hi : i ≠ S.i) (hil : i < ρ.length) (hm : m ≤ 1000) (h : DA K tr ρ [.int (m : Int)]) (ht : ∀ j : Nat, j < m → SB K S t ((wipeR ρ [i]).set i (.d (.int (j : Int)))) k (fun _ => True)) :
    SE K S (tLc (iRng1 tr) (gName i) t (tVar i) [i]) ρ (m * k) (fun z => ∃ xs : List Int, z = .list (xs.map .int) ∧ xs.Sublist (rgD m)) := fun σ H Q n hn e q => h σ H _ e.env fun vs H1 s1 d1 => by
  cases d1 with
  | cons h0 t0 =>
    cases t0
    cases h0
    have hm1 : ((m : Int)) < 2 ^ 62 := by
      have : (m : Int) ≤ 1000 := by omega
      exact Int.lt_of_le_of_lt this (by decide)
    refine ⟨(m : Int), rfl, by omega, hm1, fun D nD => ?_⟩
    have e1 := e.same s1
    refine ⟨fun j w H' => w = m - j ∧ j ≤ m ∧ ∃ (n' : Nat) (acc : List Int), n' ≤ n + j * k ∧ EvS S.a S.l H1 H' ∧ StI S.a S.c S.l n' H' ∧ H' D = some (.lst (acc.map V.int)) ∧ acc.Sublist ((rgD m).take j), ⟨m, rfl, Nat.zero_le _, n, [], by omega, .of (same_new nD), e1.st.same (same_new nD), upd_same, List.nil_sublist _⟩, ?_⟩
    rintro j w H' ⟨rfl, hj, n', acc, hn', ev, st, hD, hsub⟩
    have Da : D ≠ S.a := by
      rintro rfl
      rw [e1.st.1] at nD
      cases nD
    have Dl : D ≠ S.l := by
      rintro rfl
      obtain ⟨_, _, _, _, _, hl, _⟩ := e1.st
      rw [hl] at nD
      cases nD
    have Dc : D ≠ S.c := by
      rintro rfl
      obtain ⟨_, _, _, _, hl, _, _⟩ := e1.st
      rw [hl] at nD
      cases nD
    by_cases hlt : j < m
    · refine .inr ⟨?_, fun H'' => ∃ (n' : Nat) (acc : List Int), n' ≤ n + (j + 1) * k ∧ EvS S.a S.l H1 H'' ∧ StI S.a S.c S.l n' H'' ∧ H'' D = some (.lst (acc.map V.int)) ∧ acc.Sublist ((rgD m).take (j + 1)), fun H'' z => ⟨m - (j + 1), by omega, rfl, hlt, z⟩, fun x H2 hy => ?_⟩
      · show j < ((m : Int)).toNat
        omega
      · obtain ⟨rfl, rfl⟩ := hy
        have en := e1.ev ev st
        have ew : Nw K S ((wipeR ρ [i]).set i (.d (.int (j : Int)))) ((wipe σ [i]).set i (some (.int (0 + (j : Int))))) H2 n' := by
          refine ⟨(en.env.wipe [i]).set i (s := .d (.int (j : Int))) ⟨_, rfl, ?_⟩, (e.fz.wipe [i]).set rfl, ?_, st⟩
          · rw [Int.zero_add]
            exact .int _
          · rw [List.getElem?_set_ne hi]
            show ((σ.set i none))[S.i]? = _
            rw [List.getElem?_set_ne hi]
            exact e.slot
        have hjk : (j + 1) * k = j * k + k := Nat.succ_mul j k
        have hle : (j + 1) * k ≤ m * k := Nat.mul_le_mul_right k hlt
        have stk : (rgD m).take (j + 1) = (rgD m).take j ++ [(j : Int)] := by
          have hg : (rgD m)[j]? = some (j : Int) := by
            unfold rgD
            rw [List.getElem?_map, List.getElem?_range hlt]
            rfl
          rw [List.take_add_one, hg]
          rfl
        refine ⟨by rw [wipe_set (List.mem_singleton.mpr rfl), wipe_wipe], ht j hlt _ H2 _ n' (by omega) ew fun b H3 n3 x3 y3 z3 _ => ?_⟩
        have hD3 : H3 D = some (.lst (acc.map V.int)) := y3 D _ Da Dl hD
        cases b with
        | false => exact iteF ⟨n3, acc, by omega, ev.trans y3, z3, hD3, by rw [stk]; exact hsub.trans (List.sublist_append_left _ _)⟩
        | true =>
          have hl : (acc.map V.int).length < sizeLine := by
            rw [List.length_map]
            have h1 := hsub.length_le
            rw [List.length_take, rgD_len] at h1
            exact Nat.lt_of_le_of_lt (show acc.length ≤ 1000 by omega) (by decide)
          have hlen : i < (wipe σ [i]).length := by
            show i < (σ.set i none).length
            rw [List.length_set, e.env.len]
            exact hil
          refine iteT ⟨_, by rw [List.getElem?_set_self hlen], acc.map V.int, hD3, hl, n3, acc ++ [(j : Int)], by omega, fun b o h1 h2 h3 => ?_, ?_, ?_, by rw [stk]; exact hsub.append (List.Sublist.refl _)⟩
          · rw [upd_ne (by rintro rfl; rw [nD] at h3; cases h3)]
            exact (ev.trans y3) b o h1 h2 h3
          · obtain ⟨g1, g2, cs, ls, g3, g4, g5⟩ := z3
            exact ⟨by rw [upd_ne Da.symm]; exact g1, g2, cs, ls, by rw [upd_ne Dc.symm]; exact g3, by rw [upd_ne Dl.symm]; exact g4, g5⟩
          · rw [upd_same, Int.zero_add, List.map_append]
            rfl
    · have ej : j = m := by omega
      subst ej
      refine .inl ⟨?_, q _ H' _ n' hn' ((EvS.of s1).trans ev) st ⟨acc, rfl, ?_⟩ (.lst (.of hD) (DqAll.ofInts _))⟩
      · show ((j : Int)).toNat ≤ j
        omega
      · have := hsub
        rw [List.take_of_length_le (by rw [rgD_len]; omega)] at this
        exact this
end
section
variable {P : Program} {w : World} {K : PySem.W.Frag} {mg : Str → Option Value} {base : Heap}
/-- a promise of a def, by its body, as it stands -/
theorem mk_calR {x : Str} {st : Stmt} {N ps : List Str} {k : Nat} {sp : Sp} (D : Def K mg x st) (S : FnScope N ps (defScope st)) (len : ∀ vs H Q E, sp vs H Q E → vs.length = ps.length)
    (hb : ∀ (kV doc pm : Value) (an : Option Addr) (cdv ct : Value) (us : List Value), us.length = ps.length → bindArgs (PySem.W.fnOf x x (defArgs st) (defBody st) (defScope st) .none kV doc pm an cdv ct) ⟨us, []⟩ = pure (ps.zip us))
    (body : ∀ (f : Addr) (cdv : Value) (A : Around) (outer : List Env) (s : Shared) (H : Hp) (E : XK), Room k (A.deeper (envOfC x (defScope st) s.heap.objs.size f cdv)) →
      ∃ t, PSs (cxOf CX0 P w K mg base N x (defScope st) f cdv A outer s H E).nox (defBody st) t ∧ ∀ (D : Ends) (vs : List V) (H : Hp) (E : XK), sp vs H D.rt E → t D (L2.start N vs) H) : Cal P w K mg base (k + 1) x ps sp := by
  obtain ⟨f, fd, D, gm⟩ := D.ex
  refine ⟨f, fd, D.ok S (fun vs H Q E h => len vs H Q E h) (fun cdv A outer s H vs Q E hr h => ?_), gm, D.kp, D.bindsN hb⟩
  obtain ⟨t, ht, hd⟩ := body f cdv A outer s H E hr
  exact ⟨t, ht.nox, hd _ vs H E h⟩
theorem start_nw {N : List Str} {a c l : Addr} {us : List V} {ds : List PyData} {H : Hp} {n : Nat} (h : DqAll K H us ds) (f : ∀ d ∈ ds, frz d = true) (st : StI a c l n H) :
    Nw K ⟨0, a, c, l⟩ (Sl.no :: (ds.map Sl.d ++ List.replicate (N.length - (ds.length + 1)) Sl.no)) (L2.start N (.ref a :: us)) H n := by
  refine ⟨?_, .cons trivial (.app (fun s m => ?_) (.rep _)), rfl, st⟩
  · refine ⟨?_, fun i o s x y => ?_⟩
    · unfold L2.start
      simp [h.len]
    · cases i with
      | zero =>
        cases y
        trivial
      | succ i =>
        have h0 := (EnvD.start (N := (N.drop 1)) h).at_ i o s
        unfold L2.start at h0 x
        have e1 : (List.drop 1 N).length - us.length = N.length - (V.ref a :: us).length := by
          rw [List.length_drop, List.length_cons]
          omega
        have e2 : (List.drop 1 N).length - ds.length = N.length - (ds.length + 1) := by
          rw [List.length_drop]
          omega
        rw [e1, e2] at h0
        exact h0 x y
  · obtain ⟨d, hd, rfl⟩ := List.mem_map.mp m
    exact f d hd
/-- the same of a def that draws, whose other arguments are tuples and scalars -/
theorem mk_calS {x : Str} {st : Stmt} {N ps : List Str} {k cost : Nat} {pre : List PyData → Prop} {post : List PyData → PyData → Prop} (D : Def K mg x st) (S : FnScope N ps (defScope st)) (len : ∀ ds, pre ds → ds.length + 1 = ps.length)
    (fz : ∀ ds, pre ds → ∀ d ∈ ds, frz d = true)
    (hb : ∀ (kV doc pm : Value) (an : Option Addr) (cdv ct : Value) (us : List Value), us.length = ps.length → bindArgs (PySem.W.fnOf x x (defArgs st) (defBody st) (defScope st) .none kV doc pm an cdv ct) ⟨us, []⟩ = pure (ps.zip us))
    (body : ∀ (f : Addr) (cdv : Value) (A : Around) (outer : List Env) (s : Shared) (H : Hp) (E : XK), Room k (A.deeper (envOfC x (defScope st) s.heap.objs.size f cdv)) →
      ∃ t, PSs (cxOf CX0 P w K mg base N x (defScope st) f cdv A outer s H E).nox (defBody st) t ∧ ∀ (a c l : Addr) (ds : List PyData), pre ds → SR K ⟨0, a, c, l⟩ t (Sl.no :: (ds.map Sl.d ++ List.replicate (N.length - (ds.length + 1)) Sl.no)) cost (post ds)) :
    Cal P w K mg base (k + 1) x ps (spS K pre cost post) := by
  refine mk_calR D S (fun vs H Q E h => ?_) hb fun f cdv A outer s H E hr => ?_
  · obtain ⟨a, c, l, n, us, ds, rfl, h1, _, hp, _⟩ := h
    rw [List.length_cons, h1.len]
    exact len ds hp
  · obtain ⟨t, ht, hd⟩ := body f cdv A outer s H E hr
    refine ⟨t, ht, fun D vs H E h => ?_⟩
    obtain ⟨a, c, l, n, us, ds, rfl, h1, st, hp, hn, q⟩ := h
    exact hd a c l ds hp D _ H n hn (start_nw h1 (fz ds hp) st) q
end
end K3
set_option Elab.async false
set_option linter.all false
set_option maxRecDepth 100000
set_option maxHeartbeats 4000000
/-! The package's looks at what is given: each says yes to what is well formed. -/
namespace K3
open PySem PySem.Spec PyProof.Rows L2
section
variable {P : Program} {w : World} {K : PySem.W.Frag} {mg : Str → Option Value} {base : Heap}
/-! ### is_integer, is_between -/
def F_is_integer : List PyData → PyData → Prop := fun ds r => ∃ i, ds = [.int i] ∧ r = .bool true
theorem cal_is_integer (T : Fx K mg) (D : Def K mg "is_integer" s_is_integer) : Cal P w K mg base 1 "is_integer" ["thing"] (spF K F_is_integer) := by
  have S := sc_is_integer
  refine mk_cal D S (fun ds r h => by obtain ⟨i, rfl, _⟩ := h; rfl) (fun _ _ _ _ _ _ us hl => match us, hl with | [_], _ => rfl) fun f cdv A outer s H E hr => ?_
  refine ⟨_, (pss_one (ps_ret (pe_and (pe_callB (call_isiK' K) rfl T.isinstance (by decide +kernel) (pa_cons (pv 0) (pa_cons (pe_bltn (v := .ty "int") rfl T.int (by decide +kernel) rfl) pa_nil))) (pe_one (pe_not (pe_callB (call_isiK' K) rfl T.isinstance (by decide +kernel) (pa_cons (pv 0) (pa_cons (pe_bltn (v := .ty "bool") rfl T.bool (by decide +kernel) rfl) pa_nil)))))))), fun ds r h => ?_⟩
  obtain ⟨i, rfl, rfl⟩ := h
  exact dr_ret (de_andV (de_isi "int" "int" true (de_var rfl) rfl (by decide +kernel)) fun _ => de_notV (de_isi "int" "bool" false (de_var rfl) rfl (by decide +kernel)))
def F_is_between : List PyData → PyData → Prop := fun ds r => ∃ i a b, ds = [.int i, .int a, .int b] ∧ r = .bool (decide (a ≤ i) && decide (i ≤ b))
theorem cal_is_between (T : Fx K mg) (D : Def K mg "is_between" s_is_between) (C_is_integer : Cal P w K mg base 1 "is_integer" ["thing"] (spF K F_is_integer)) : Cal P w K mg base 2 "is_between" ["thing", "least", "most"] (spF K F_is_between) := by
  have S := sc_is_between
  refine mk_cal D S (fun ds r h => by obtain ⟨i, a, b, rfl, _⟩ := h; rfl) (fun _ _ _ _ _ _ us hl => match us, hl with | [_, _, _], _ => rfl) fun f cdv A outer s H E hr => ?_
  refine ⟨_, (pss_one (ps_ret (pe_and (pe_cal C_is_integer hr (by decide) rfl (pa_cons (pv 0) pa_nil)) (pe_one (pe_chain (op_le) (op_le) (pv 1) (pv 0) (pv 2)))))), fun ds r h => ?_⟩
  obtain ⟨i, a, b, rfl, rfl⟩ := h
  exact dr_ret (de_andV (a := true) (de_call (da_cons (de_var rfl) da_nil) ⟨i, rfl, rfl⟩) fun _ => de_chain (de_var rfl) (de_var rfl) (r_I0 fun _ => .bl _) (fun _ => de_var rfl) fun _ => r_I0 fun _ => .bl _)
/-! ### is_rising -/
def F_is_rising : List PyData → PyData → Prop := fun ds r => ∃ (x : PyData) (ns : List Int), ds = [x] ∧ (x = .tuple (ns.map .int) ∨ x = .list (ns.map .int)) ∧ ns.Pairwise (· < ·) ∧ ns.length ≤ 8 ∧ r = .bool true
theorem zip_next : ∀ ns : List Int, List.zipWith (fun x y => PyData.tuple [x, y]) (ns.map .int) ((ns.map PyData.int).drop 1) = (ns.zip (ns.drop 1)).map fun p => .tuple [.int p.1, .int p.2]
  | [] => rfl
  | [_] => rfl
  | a :: b :: r => by
    have h := zip_next (b :: r)
    show PyData.tuple [.int a, .int b] :: List.zipWith (fun x y => PyData.tuple [x, y]) ((b :: r).map .int) (((b :: r).map PyData.int).drop 1) = _
    rw [h]
    rfl
theorem rise_all : ∀ {ns : List Int}, ns.Pairwise (· < ·) → ∀ p ∈ ns.zip (ns.drop 1), p.1 < p.2
  | [], _, p, h => by cases h
  | [_], _, p, h => by cases h
  | a :: b :: r, k, p, h => by
    have k' := List.pairwise_cons.mp k
    have h' : p ∈ (a, b) :: (b :: r).zip ((b :: r).drop 1) := h
    rcases List.mem_cons.mp h' with e | e
    · rw [e]
      exact k'.1 b List.mem_cons_self
    · exact rise_all k'.2 p e
theorem cal_is_rising (T : Fx K mg) (D : Def K mg "is_rising" s_is_rising) : Cal P w K mg base 1 "is_rising" ["some"] (spF K F_is_rising) := by
  have S := sc_is_rising
  refine mk_cal D S (fun ds r h => by obtain ⟨x, ns, rfl, _⟩ := h; rfl) (fun _ _ _ _ _ _ us hl => match us, hl with | [_], _ => rfl) fun f cdv A outer s H E hr => ?_
  refine ⟨_, (pss_one (ps_ret (pe_callB (cr_allK K rfl) rfl T.all (by decide +kernel) (pa_cons (pe_lc (own := [("one", 1), ("other", 2)]) (g := gTup K 2 (gCons (gName 1) (gCons (gName 2) gNil))) rfl S.nd (RZ.pi_zipA rfl T.zip (pa_cons (pv 0) (pa_cons (pe_slice (sl_uK K) (pv 0) (po_some pe_int) po_none) pa_nil))) (blkOk_by (own := [("one", 1), ("other", 2)]) (N := N_is_rising) (sc := defScope s_is_rising) (by decide +kernel)) (fun _ _ _ _ _ => (pg_tup rfl (pgs_cons (pg_name (i := 1) S.nd rfl (by first | exact Or.inl rfl | exact Or.inr rfl)) (pgs_cons (pg_name (i := 2) S.nd rfl (by first | exact Or.inl rfl | exact Or.inr rfl)) pgs_nil)))) (fun _ _ _ _ _ => pts_nil) (fun _ _ _ _ _ => (pe_cmpR (op_lt) (pv 1) (pv 2) (nomark _)))) pa_nil)))), fun ds r h => ?_⟩
  obtain ⟨x, ns, rfl, hx, hp, hl, rfl⟩ := h
  have hi : itemsD x = some (ns.map .int) := by rcases hx with rfl | rfl <;> rfl
  have hc : (x = .tuple (ns.map .int) ∧ cutO x (some 1) none = .tuple ((ns.map PyData.int).drop 1)) ∨ (x = .list (ns.map .int) ∧ cutO x (some 1) none = .list ((ns.map PyData.int).drop 1)) := by
    rcases hx with rfl | rfl
    · exact .inl ⟨rfl, congrArg _ (cutD_drop _ 1)⟩
    · exact .inr ⟨rfl, congrArg _ (cutD_drop _ 1)⟩
  have hz : ∀ ρ : Rho, ρ[0]? = some (.d x) → DI K (Pq K) _ ρ _ := fun ρ e0 => di_zip (da_cons (de_var e0) (da_cons (de_sl (de_var e0) hi (do_some de_int) do_none) da_nil)) hc
  rw [zip_next] at hz
  refine dr_ret ((de_cb (da_cons (de_map (enc := fun p : Int × Int => .tuple [.int p.1, .int p.2]) _ (fun p => .bool (decide (p.1 < p.2))) (hz _ rfl) ?_ (fun a _ => dg_pair (by decide) (by decide)) (fun a _ => de_op (de_var rfl) (de_var rfl) (r_I0 fun _ => .bl _)) (fun _ => rfl)) da_nil) c_allM).is ?_)
  · rw [List.length_zip]
    omega
  · rw [List.all_eq_true.mpr fun p m => decide_eq_true (rise_all hp p m)]
end
end K3
set_option Elab.async false
set_option linter.all false
set_option maxRecDepth 100000
set_option maxHeartbeats 4000000
/-! Lots, steps, lookups, indexes: each look says yes to what is well formed. -/
namespace K3
open PySem PySem.Spec PyProof.Rows L2
section
variable {P : Program} {w : World} {K : PySem.W.Frag} {mg : Str → Option Value} {base : Heap}
abbrev C_is_integerT (P : Program) (w : World) (K : PySem.W.Frag) (mg : Str → Option Value) (base : Heap) := Cal P w K mg base 1 "is_integer" ["thing"] (spF K F_is_integer)
abbrev C_is_betweenT (P : Program) (w : World) (K : PySem.W.Frag) (mg : Str → Option Value) (base : Heap) := Cal P w K mg base 2 "is_between" ["thing", "least", "most"] (spF K F_is_between)
abbrev C_is_risingT (P : Program) (w : World) (K : PySem.W.Frag) (mg : Str → Option Value) (base : Heap) := Cal P w K mg base 1 "is_rising" ["some"] (spF K F_is_rising)
/-! ### is_lot -/
def F_is_lot : List PyData → PyData → Prop := fun ds r => ∃ c cs, ds = [.int c, encLot cs] ∧ LotOk c cs ∧ r = .bool true
theorem cal_is_lot (T : Fx K mg) (D : Def K mg "is_lot" s_is_lot) (C_is_between : C_is_betweenT P w K mg base) (C_is_rising : C_is_risingT P w K mg base) : Cal P w K mg base 3 "is_lot" ["columns", "thing"] (spF K F_is_lot) := by
  have S := sc_is_lot
  refine mk_cal D S (fun ds r h => by obtain ⟨c, cs, rfl, _⟩ := h; rfl) (fun _ _ _ _ _ _ us hl => match us, hl with | [_, _], _ => rfl) fun f cdv A outer s H E hr => ?_
  refine ⟨_, (pss_cons (ps_if (PW.pt (pw_or (pt_not (pt_val (pe_callB (call_isiK' K) rfl T.isinstance (by decide +kernel) (pa_cons (pv 1) (pa_cons (pe_bltn (v := .ty "tuple") rfl T.tuple (by decide +kernel) rfl) pa_nil))))) (pw_or1 (pt_not (pt_val (pe_callB (cr_allK K rfl) rfl T.all (by decide +kernel) (pa_cons (pe_lc (own := [("one", 2)]) (g := gName 2) rfl S.nd (pi_seqK K (pv 1)) (blkOk_by (own := [("one", 2)]) (N := N_is_lot) (sc := defScope s_is_lot) (by decide +kernel)) (fun _ _ _ _ _ => (pg_name (i := 2) S.nd rfl (by first | exact Or.inl rfl | exact Or.inr rfl))) (fun _ _ _ _ _ => pts_nil) (fun _ _ _ _ _ => (pe_cal C_is_between hr (by decide) rfl (pa_cons (pv 2) (pa_cons pe_int (pa_cons (pe_op op_sub (pv 0) pe_int) pa_nil)))))) pa_nil))))))) (pss_one (ps_ret pe_bl)) pss_nil)
        (pss_one (ps_ret (pe_cal C_is_rising hr (by decide) rfl (pa_cons (pv 1) pa_nil))))), fun ds r h => ?_⟩
  obtain ⟨c, cs, rfl, ⟨hc, hp, hl⟩, rfl⟩ := h
  refine dr_seq (dn_skip ((dt_or (dt_not (dt_B (de_isi "tuple" "tuple" true (de_var rfl) rfl (by decide +kernel)))) fun _ => dt_not (dt_B (de_cb (da_cons (de_map (items := cs) (enc := .int) _ (fun i => .bool (decide (0 ≤ i) && decide (i ≤ c - 1))) (di_seq (de_var rfl) rfl) (Nat.le_trans hl (by decide))
    (fun a _ => dg_name (by decide)) (fun a _ => de_call (da_cons (de_var rfl) (da_cons de_int (da_cons (de_op (de_var rfl) de_int (r_I0 fun _ => .int _)) da_nil))) ⟨a, 0, c - 1, rfl, rfl⟩) (fun _ => rfl)) da_nil) c_allM))).is ?_))
    (dr_ret (de_call (da_cons (de_var rfl) da_nil) ⟨_, cs, rfl, .inl rfl, hp, hl, rfl⟩))
  rw [List.all_eq_true.mpr fun i m => by rw [decide_eq_true (hc i m).1, decide_eq_true (show i ≤ c - 1 from by have := (hc i m).2; omega)]; rfl]
  rfl
abbrev C_is_lotT (P : Program) (w : World) (K : PySem.W.Frag) (mg : Str → Option Value) (base : Heap) := Cal P w K mg base 3 "is_lot" ["columns", "thing"] (spF K F_is_lot)
/-! ### is_step -/
def F_is_step : List PyData → PyData → Prop := fun ds r => ∃ c s, ds = [.int c, encStep s] ∧ 0 ≤ s.1 ∧ s.1 < c ∧ r = .bool true
theorem way_in (b : Bool) : inV (.str (wS b)) [.str "up", .str "down"] = true := by
  cases b <;> decide +kernel
theorem cal_is_step (T : Fx K mg) (D : Def K mg "is_step" s_is_step) (C_is_between : C_is_betweenT P w K mg base) : Cal P w K mg base 3 "is_step" ["columns", "thing"] (spF K F_is_step) := by
  have S := sc_is_step
  refine mk_cal D S (fun ds r h => by obtain ⟨c, cs, rfl, _⟩ := h; rfl) (fun _ _ _ _ _ _ us hl => match us, hl with | [_, _], _ => rfl) fun f cdv A outer s H E hr => ?_
  have hu64 := hu64_of hr
  refine ⟨_, (pss_cons (ps_if (PW.pt (pw_or (pt_not (pt_val (pe_callB (call_isiK' K) rfl T.isinstance (by decide +kernel) (pa_cons (pv 1) (pa_cons (pe_bltn (v := .ty "tuple") rfl T.tuple (by decide +kernel) rfl) pa_nil))))) (pw_or (pt_cmpR (op_neK K hu64) (pe_callB (call_lenK K) rfl T.len (by decide +kernel) (pa_cons (pv 1) pa_nil)) pe_int (nomark _)) (pw_or1 (pt_not (pt_val (pe_cal C_is_between hr (by decide) rfl (pa_cons (pe_ix (ix_uK K) (pv 1) pe_int (fun _ _ => rfl)) (pa_cons pe_int (pa_cons (pe_op op_sub (pv 0) pe_int) pa_nil)))))))))) (pss_one (ps_ret pe_bl)) pss_nil)
        (pss_one (ps_ret (pe_and (pe_callB (call_isiK' K) rfl T.isinstance (by decide +kernel) (pa_cons (pe_ix (ix_uK K) (pv 1) pe_int (fun _ _ => rfl)) (pa_cons (pe_bltn (v := .ty "str") rfl T.str (by decide +kernel) rfl) pa_nil))) (pe_one (pe_cmpR (op_in_seq) (pe_ix (ix_uK K) (pv 1) pe_int (fun _ _ => rfl)) (pe_gref rfl T.WAYS) rfl)))))), fun ds r h => ?_⟩
  obtain ⟨c, s, rfl, h0, h1, rfl⟩ := h
  refine dr_seq (dn_skip ((dt_or (dt_not (dt_B (de_isi "tuple" "tuple" true (de_var rfl) rfl (by decide +kernel)))) fun _ => dt_or (dt_test (de_op (de_cb (da_cons (de_var rfl) da_nil) (c_len rfl)) de_int (r_neD (sh_int _) (sh_int _)))) fun _ =>
      dt_not (dt_B (de_call (da_cons (de_op (de_var rfl) de_int (r_ix (j := 0) rfl rfl rfl)) (da_cons de_int (da_cons (de_op (de_var rfl) de_int (r_I0 fun _ => .int _)) da_nil))) ⟨s.1, 0, c - 1, rfl, rfl⟩))).is ?_))
    (dr_ret ((de_andV (de_isi "str" "str" true (de_op (de_var rfl) de_int (r_ix (j := 1) rfl rfl rfl)) rfl (by decide +kernel)) fun _ => de_inW (de_op (de_var rfl) de_int (r_ix (j := 1) rfl rfl rfl)) (by decide)).is ?_))
  · rw [decide_eq_true h0, decide_eq_true (show s.1 ≤ c - 1 by omega)]
    rfl
  · rw [way_in]
    rfl
abbrev C_is_stepT (P : Program) (w : World) (K : PySem.W.Frag) (mg : Str → Option Value) (base : Heap) := Cal P w K mg base 3 "is_step" ["columns", "thing"] (spF K F_is_step)
/-! ### are_steps -/
def F_are_steps : List PyData → PyData → Prop := fun ds r => ∃ c ss, ds = [.int c, encSteps ss] ∧ StepsOk c ss ∧ r = .bool true
theorem srt_rise {ns : List Int} (h : ns.Nodup) : (srt ns).Pairwise (· < ·) := by
  have h1 := srt_pair ns
  have h2 : (srt ns).Nodup := (srt_perm ns).nodup_iff.mpr h
  exact h1.imp₂ (fun a b le ne => Int.lt_iff_le_and_ne.mpr ⟨le, ne⟩) h2
theorem cal_are_steps (T : Fx K mg) (D : Def K mg "are_steps" s_are_steps) (C_is_step : C_is_stepT P w K mg base) (C_is_rising : C_is_risingT P w K mg base) : Cal P w K mg base 4 "are_steps" ["columns", "thing"] (spF K F_are_steps) := by
  have S := sc_are_steps
  refine mk_cal D S (fun ds r h => by obtain ⟨c, cs, rfl, _⟩ := h; rfl) (fun _ _ _ _ _ _ us hl => match us, hl with | [_, _], _ => rfl) fun f cdv A outer s H E hr => ?_
  refine ⟨_, (pss_cons (ps_if (PW.pt (pw_or (pt_not (pt_val (pe_callB (call_isiK' K) rfl T.isinstance (by decide +kernel) (pa_cons (pv 1) (pa_cons (pe_bltn (v := .ty "tuple") rfl T.tuple (by decide +kernel) rfl) pa_nil))))) (pw_or1 (pt_not (pt_val (pe_callB (cr_allK K rfl) rfl T.all (by decide +kernel) (pa_cons (pe_lc (own := [("step", 2)]) (g := gName 2) rfl S.nd (pi_seqK K (pv 1)) (blkOk_by (own := [("step", 2)]) (N := N_are_steps) (sc := defScope s_are_steps) (by decide +kernel)) (fun _ _ _ _ _ => (pg_name (i := 2) S.nd rfl (by first | exact Or.inl rfl | exact Or.inr rfl))) (fun _ _ _ _ _ => pts_nil) (fun _ _ _ _ _ => (pe_cal C_is_step hr (by decide) rfl (pa_cons (pv 0) (pa_cons (pv 2) pa_nil))))) pa_nil))))))) (pss_one (ps_ret pe_bl)) pss_nil)
        (pss_one (ps_ret (pe_cal C_is_rising hr (by decide) rfl (pa_cons (pe_callB (cr_sortedK K) rfl T.sorted (by decide +kernel) (pa_cons (pe_lc (own := [("step", 2)]) (g := gName 2) rfl S.nd (pi_seqK K (pv 1)) (blkOk_by (own := [("step", 2)]) (N := N_are_steps) (sc := defScope s_are_steps) (by decide +kernel)) (fun _ _ _ _ _ => (pg_name (i := 2) S.nd rfl (by first | exact Or.inl rfl | exact Or.inr rfl))) (fun _ _ _ _ _ => pts_nil) (fun _ _ _ _ _ => (pe_ix (ix_uK K) (pv 2) pe_int (fun _ _ => rfl)))) pa_nil)) pa_nil))))), fun ds r h => ?_⟩
  obtain ⟨c, ss, rfl, ⟨hc, hn, hl⟩, rfl⟩ := h
  have hl' : ss.length ≤ 1000 := Nat.le_trans hl (by decide)
  refine dr_seq (dn_skip ((dt_or (dt_not (dt_B (de_isi "tuple" "tuple" true (de_var rfl) rfl (by decide +kernel)))) fun _ => dt_not (dt_B (de_cb (da_cons (de_map (items := ss) (enc := encStep) _ (fun s => .bool true) (di_seq (de_var rfl) rfl) hl'
    (fun a _ => dg_name (by decide)) (fun a m => de_call (da_cons (de_var rfl) (da_cons (de_var rfl) da_nil)) ⟨c, a, rfl, (hc a m).1, (hc a m).2, rfl⟩) (fun _ => rfl)) da_nil) (c_allM (g := fun _ => true))))).is ?_))
    (dr_ret (de_call (da_cons (de_cb (da_cons ((de_map (items := ss) (enc := encStep) _ (fun s => .int s.1) (di_seq (de_var rfl) rfl) hl' (fun a _ => dg_name (by decide)) (fun a m => de_op (de_var rfl) de_int (r_ix (j := 0) rfl rfl rfl)) (fun _ => rfl)).is (d' := .list ((ss.map (·.1)).map .int)) (by rw [List.map_map]; rfl)) da_nil) (c_sorted (ns := ss.map (·.1)) (by rw [List.length_map]; omega))) da_nil)
      ⟨_, srt (ss.map (·.1)), rfl, .inr rfl, srt_rise hn, by rw [srt_len, List.length_map]; exact hl, rfl⟩))
  rw [List.all_eq_true.mpr fun _ _ => rfl]
  rfl
abbrev C_are_stepsT (P : Program) (w : World) (K : PySem.W.Frag) (mg : Str → Option Value) (base : Heap) := Cal P w K mg base 4 "are_steps" ["columns", "thing"] (spF K F_are_steps)
end
end K3
set_option Elab.async false
set_option linter.all false
set_option maxRecDepth 100000
set_option maxHeartbeats 4000000
/-! Lookups, indexes, what is wanted; sets and beginnings. -/
namespace K3
open PySem PySem.Spec PyProof.Rows L2
section
variable {P : Program} {w : World} {K : PySem.W.Frag} {mg : Str → Option Value} {base : Heap}
/-! ### is_lookup -/
def F_is_lookup : List PyData → PyData → Prop := fun ds r => ∃ c l, ds = [.int c, encLk l] ∧ LkOk c l ∧ r = .bool true
theorem sh_none2 : SeqAt.shaped (.tuple [.tuple [], .tuple []]) = true := by decide +kernel
theorem eqv_lk_nil {l : Lk} (h : ¬ (l.1 = [] ∧ l.2 = [])) : PyData.eqv (encLk l) (.tuple [.tuple [], .tuple []]) = false := by
  obtain ⟨a, b⟩ := l
  show (PyData.eqvAll (a.map .int) [] && (PyData.eqvAll (b.map encStep) [] && true)) = false
  cases a with
  | cons x r => rfl
  | nil => cases b with
    | cons x r => rfl
    | nil => exact absurd ⟨rfl, rfl⟩ h
theorem cal_is_lookup (T : Fx K mg) (D : Def K mg "is_lookup" s_is_lookup) (C_is_lot : C_is_lotT P w K mg base) (C_are_steps : C_are_stepsT P w K mg base) : Cal P w K mg base 5 "is_lookup" ["columns", "thing"] (spF K F_is_lookup) := by
  have S := sc_is_lookup
  refine mk_cal D S (fun ds r h => by obtain ⟨c, cs, rfl, _⟩ := h; rfl) (fun _ _ _ _ _ _ us hl => match us, hl with | [_, _], _ => rfl) fun f cdv A outer s H E hr => ?_
  have hu64 := hu64_of hr
  have hu65 := hu65_of hr
  refine ⟨_, (pss_cons (ps_if (PW.pt (pw_or (pt_not (pt_val (pe_callB (call_isiK' K) rfl T.isinstance (by decide +kernel) (pa_cons (pv 1) (pa_cons (pe_bltn (v := .ty "tuple") rfl T.tuple (by decide +kernel) rfl) pa_nil))))) (pw_or (pt_cmpR (op_neK K hu64) (pe_callB (call_lenK K) rfl T.len (by decide +kernel) (pa_cons (pv 1) pa_nil)) pe_int (nomark _)) (pw_or1 (pt_cmpR (op_eqK K hu64) (pv 1) (pe_tupF (pa_cons (pe_tupF pa_nil) (pa_cons (pe_tupF pa_nil) pa_nil))) (nomark _)))))) (pss_one (ps_ret pe_bl)) pss_nil)
        (pss_cons (ps_if (PW.pt (pw_or (pt_not (pt_val (pe_cal C_is_lot hr (by decide) rfl (pa_cons (pv 0) (pa_cons (pe_ix (ix_uK K) (pv 1) pe_int (fun _ _ => rfl)) pa_nil))))) (pw_or1 (pt_not (pt_val (pe_cal C_are_steps hr (by decide) rfl (pa_cons (pv 0) (pa_cons (pe_ix (ix_uK K) (pv 1) pe_int (fun _ _ => rfl)) pa_nil)))))))) (pss_one (ps_ret pe_bl)) pss_nil)
        (pss_one (ps_ret (pe_not (pe_callB (cr_anyK K rfl) rfl T.any (by decide +kernel) (pa_cons (pe_lc (own := [("step", 2)]) (g := gName 2) rfl S.nd (pi_seqK K (pe_ix (ix_uK K) (pv 1) pe_int (fun _ _ => rfl))) (blkOk_by (own := [("step", 2)]) (N := N_is_lookup) (sc := defScope s_is_lookup) (by decide +kernel)) (fun _ _ _ _ _ => (pg_name (i := 2) S.nd rfl (by first | exact Or.inl rfl | exact Or.inr rfl))) (fun _ _ _ _ _ => pts_nil) (fun _ _ _ _ _ => (pe_cmpR (op_inK K hu65) (pe_ix (ix_uK K) (pv 2) pe_int (fun _ _ => rfl)) (pe_ix (ix_uK K) (pv 1) pe_int (fun _ _ => rfl)) rfl))) pa_nil))))))), fun ds r h => ?_⟩
  obtain ⟨c, l, rfl, ⟨h1, h2, h3, h4⟩, rfl⟩ := h
  refine dr_seq (dn_skip ((dt_or (dt_not (dt_B (de_isi "tuple" "tuple" true (de_var rfl) rfl (by decide +kernel)))) fun _ => dt_or (dt_test (de_op (de_cb (da_cons (de_var rfl) da_nil) (c_len rfl)) de_int (r_neD (sh_int _) (sh_int _)))) fun _ =>
      dt_test (de_op (de_var rfl) (de_tup (da_cons (de_tup da_nil (by decide)) (da_cons (de_tup da_nil (by decide)) da_nil)) (by decide)) (r_eqD (sh_lk l) sh_none2))).is ?_))
    (dr_seq (dn_skip (dt_or (a := false) (b := false) (dt_not (a := true) (dt_B (de_call (da_cons (de_var rfl) (da_cons (de_op (de_var rfl) de_int (r_ix (j := 0) rfl rfl rfl)) da_nil)) ⟨c, l.1, rfl, h1, rfl⟩))) fun _ => dt_not (a := true) (dt_B (de_call (da_cons (de_var rfl) (da_cons (de_op (de_var rfl) de_int (r_ix (j := 1) rfl rfl rfl)) da_nil)) ⟨c, l.2, rfl, h2, rfl⟩))))
    (dr_ret ((de_notV (de_cb (da_cons (de_map (items := l.2) (enc := encStep) _ (fun s => .bool (decide (s.1 ∈ l.1))) (di_seq (de_op (de_var rfl) de_int (r_ix (j := 1) rfl rfl rfl)) rfl) (Nat.le_trans h2.2.2 (by decide)) (fun a _ => dg_name (by decide))
      (fun a m => (de_op (de_op (de_var rfl) de_int (r_ix (j := 0) rfl rfl rfl)) (de_op (de_var rfl) de_int (r_ix (j := 0) rfl rfl rfl)) (r_inU (neg := false) (ds := l.1.map .int) rfl (sh_int _) (sh_lot _))).is (congrArg PyData.bool (any_int l.1 a.1))) (fun _ => rfl)) da_nil) (c_anyM (g := fun s : Stp => decide (s.1 ∈ l.1))))).is ?_)))
  · rw [eqv_lk_nil h4]
    rfl
  · rw [List.any_eq_false.mpr fun s m => by rw [decide_eq_false (h3 s m)]; decide]
    rfl
abbrev C_is_lookupT (P : Program) (w : World) (K : PySem.W.Frag) (mg : Str → Option Value) (base : Heap) := Cal P w K mg base 5 "is_lookup" ["columns", "thing"] (spF K F_is_lookup)
/-! ### is_index -/
def F_is_index : List PyData → PyData → Prop := fun ds r => ∃ c ix, ds = [.int c, encSteps ix] ∧ IxOk c ix ∧ r = .bool true
theorem sh_nil : SeqAt.shaped (.tuple []) = true := by decide +kernel
theorem eqv_nil {α : Type} {f : α → PyData} {l : List α} (h : l ≠ []) : PyData.eqv (.tuple (l.map f)) (.tuple []) = false := by
  cases l with
  | nil => exact absurd rfl h
  | cons a r => rfl
theorem cal_is_index (T : Fx K mg) (D : Def K mg "is_index" s_is_index) (C_are_steps : C_are_stepsT P w K mg base) : Cal P w K mg base 5 "is_index" ["columns", "thing"] (spF K F_is_index) := by
  have S := sc_is_index
  refine mk_cal D S (fun ds r h => by obtain ⟨c, cs, rfl, _⟩ := h; rfl) (fun _ _ _ _ _ _ us hl => match us, hl with | [_, _], _ => rfl) fun f cdv A outer s H E hr => ?_
  have hu64 := hu64_of hr
  refine ⟨_, (pss_one (ps_ret (pe_and (pe_cal C_are_steps hr (by decide) rfl (pa_cons (pv 0) (pa_cons (pv 1) pa_nil))) (pe_one (pe_cmpR (op_neK K hu64) (pv 1) (pe_tupF pa_nil) (nomark _)))))), fun ds r h => ?_⟩
  obtain ⟨c, ix, rfl, ⟨h1, h2⟩, rfl⟩ := h
  refine dr_ret ((de_andV (a := true) (de_call (da_cons (de_var rfl) (da_cons (de_var rfl) da_nil)) ⟨c, ix, rfl, h1, rfl⟩) fun _ => de_op (de_var rfl) (de_tup da_nil (by decide)) (r_neD (sh_steps ix) sh_nil)).is ?_)
  show PyData.bool (true && !PyData.eqv (.tuple (ix.map encStep)) (.tuple [])) = _
  rw [eqv_nil h2]
  rfl
abbrev C_is_indexT (P : Program) (w : World) (K : PySem.W.Frag) (mg : Str → Option Value) (base : Heap) := Cal P w K mg base 5 "is_index" ["columns", "thing"] (spF K F_is_index)
/-! ### need_columns, need_lookup_of, need_index_of, need_index -/
def F_need_columns : List PyData → Prop := fun ds => ∃ c, ds = [.int c] ∧ 1 ≤ c ∧ c ≤ 8
theorem cal_need_columns (T : Fx K mg) (D : Def K mg "need_columns" s_need_columns) (C_is_between : C_is_betweenT P w K mg base) : Cal P w K mg base 3 "need_columns" ["columns"] (spF K fun ds r => F_need_columns ds ∧ r = .none) := by
  have S := sc_need_columns
  refine mk_calN D S (fun ds h => by obtain ⟨c, rfl, _⟩ := h; rfl) (fun _ _ _ _ _ _ us hl => match us, hl with | [_], _ => rfl) fun f cdv A outer s H E hr => ?_
  refine ⟨_, (pss_one (ps_if (pt_not (pt_val (pe_cal C_is_between hr (by decide) rfl (pa_cons (pv 0) (pa_cons pe_int (pa_cons (pe_gint rfl T.MOST_COLUMNS) pa_nil)))))) (pss_one ps_never) pss_nil)), fun ds h => ?_⟩
  obtain ⟨c, rfl, h1, h2⟩ := h
  refine ⟨_, dn_skip ((dt_not (dt_B (de_call (da_cons (de_var rfl) (da_cons de_int (da_cons de_int da_nil))) ⟨c, 1, 8, rfl, rfl⟩))).is ?_)⟩
  rw [decide_eq_true h1, decide_eq_true h2]
  rfl
abbrev C_need_columnsT (P : Program) (w : World) (K : PySem.W.Frag) (mg : Str → Option Value) (base : Heap) := Cal P w K mg base 3 "need_columns" ["columns"] (spF K fun ds r => F_need_columns ds ∧ r = .none)
def F_need_lookup_of : List PyData → Prop := fun ds => ∃ c l, ds = [.int c, encLk l] ∧ LkOk c l
theorem cal_need_lookup_of (T : Fx K mg) (D : Def K mg "need_lookup_of" s_need_lookup_of) (C_is_lookup : C_is_lookupT P w K mg base) : Cal P w K mg base 6 "need_lookup_of" ["columns", "lookup"] (spF K fun ds r => F_need_lookup_of ds ∧ r = .none) := by
  have S := sc_need_lookup_of
  refine mk_calN D S (fun ds h => by obtain ⟨c, l, rfl, _⟩ := h; rfl) (fun _ _ _ _ _ _ us hl => match us, hl with | [_, _], _ => rfl) fun f cdv A outer s H E hr => ?_
  refine ⟨_, (pss_one (ps_if (pt_not (pt_val (pe_cal C_is_lookup hr (by decide) rfl (pa_cons (pv 0) (pa_cons (pv 1) pa_nil))))) (pss_one ps_never) pss_nil)), fun ds h => ?_⟩
  obtain ⟨c, l, rfl, h1⟩ := h
  exact ⟨_, dn_skip (dt_not (a := true) (dt_B (de_call (da_cons (de_var rfl) (da_cons (de_var rfl) da_nil)) ⟨c, l, rfl, h1, rfl⟩)))⟩
abbrev C_need_lookup_ofT (P : Program) (w : World) (K : PySem.W.Frag) (mg : Str → Option Value) (base : Heap) := Cal P w K mg base 6 "need_lookup_of" ["columns", "lookup"] (spF K fun ds r => F_need_lookup_of ds ∧ r = .none)
def F_need_index_of : List PyData → Prop := fun ds => ∃ c ix, ds = [.int c, encSteps ix] ∧ IxOk c ix
theorem cal_need_index_of (T : Fx K mg) (D : Def K mg "need_index_of" s_need_index_of) (C_is_index : C_is_indexT P w K mg base) : Cal P w K mg base 6 "need_index_of" ["columns", "index"] (spF K fun ds r => F_need_index_of ds ∧ r = .none) := by
  have S := sc_need_index_of
  refine mk_calN D S (fun ds h => by obtain ⟨c, l, rfl, _⟩ := h; rfl) (fun _ _ _ _ _ _ us hl => match us, hl with | [_, _], _ => rfl) fun f cdv A outer s H E hr => ?_
  refine ⟨_, (pss_one (ps_if (pt_not (pt_val (pe_cal C_is_index hr (by decide) rfl (pa_cons (pv 0) (pa_cons (pv 1) pa_nil))))) (pss_one ps_never) pss_nil)), fun ds h => ?_⟩
  obtain ⟨c, l, rfl, h1⟩ := h
  exact ⟨_, dn_skip (dt_not (a := true) (dt_B (de_call (da_cons (de_var rfl) (da_cons (de_var rfl) da_nil)) ⟨c, l, rfl, h1, rfl⟩)))⟩
abbrev C_need_index_ofT (P : Program) (w : World) (K : PySem.W.Frag) (mg : Str → Option Value) (base : Heap) := Cal P w K mg base 6 "need_index_of" ["columns", "index"] (spF K fun ds r => F_need_index_of ds ∧ r = .none)
def F_need_index : List PyData → PyData → Prop := fun ds r => ∃ c ix, ds = [.int c, encSteps ix] ∧ 1 ≤ c ∧ c ≤ 8 ∧ IxOk c ix ∧ r = encSteps ix
theorem cal_need_index (T : Fx K mg) (D : Def K mg "need_index" s_need_index) (C_need_columns : C_need_columnsT P w K mg base) (C_need_index_of : C_need_index_ofT P w K mg base) : Cal P w K mg base 7 "need_index" ["columns", "thing"] (spF K F_need_index) := by
  have S := sc_need_index
  refine mk_cal D S (fun ds r h => by obtain ⟨c, l, rfl, _⟩ := h; rfl) (fun _ _ _ _ _ _ us hl => match us, hl with | [_, _], _ => rfl) fun f cdv A outer s H E hr => ?_
  refine ⟨_, (pss_cons (ps_expr (pe_cal C_need_columns hr (by decide) rfl (pa_cons (pv 0) pa_nil)))
        (pss_cons (ps_expr (pe_cal C_need_index_of hr (by decide) rfl (pa_cons (pv 0) (pa_cons (pv 1) pa_nil))))
        (pss_one (ps_ret (pv 1))))), fun ds r h => ?_⟩
  obtain ⟨c, ix, rfl, h1, h2, h3, rfl⟩ := h
  exact dr_seq (dn_drop (de_call (da_cons (de_var rfl) da_nil) ⟨⟨c, rfl, h1, h2⟩, rfl⟩)) (dr_seq (dn_drop (de_call (da_cons (de_var rfl) (da_cons (de_var rfl) da_nil)) ⟨⟨c, ix, rfl, h3⟩, rfl⟩)) (dr_ret (de_var rfl)))
abbrev C_need_indexT (P : Program) (w : World) (K : PySem.W.Frag) (mg : Str → Option Value) (base : Heap) := Cal P w K mg base 7 "need_index" ["columns", "thing"] (spF K F_need_index)
/-! ### sets and beginnings -/
def F_sets : List PyData → PyData → Prop := fun ds r => ∃ l : Lk, ds = [encLk l] ∧ l.1.length ≤ 8 ∧ l.2.length ≤ 8 ∧ r = .list ((setsM l).map encLot)
def F_begs : List PyData → PyData → Prop := fun ds r => ∃ ix : List Stp, ds = [encSteps ix] ∧ ix.length ≤ 8 ∧ r = .list ((begM ix).map encLot)
theorem colsM_len (ss : List Stp) : (colsM ss).length = ss.length := List.length_map ..
/-- the numbers up to n, as the walk of a range gives them -/
theorem rg_map (n : Nat) (f : Nat → List Int) : (rgD n).map (fun (i : Int) => encLot (f i.toNat)) = ((List.range n).map f).map encLot := by
  unfold rgD
  rw [List.map_map, List.map_map]
  rfl
theorem cut_cols (cs : List Int) {i : Int} (h : 0 ≤ i) : cutO (.list (cs.map .int)) none (some i) = .list ((cs.take i.toNat).map .int) := by
  obtain ⟨k, rfl⟩ := Int.eq_ofNat_of_zero_le h
  show PyData.list (cutD (cs.map .int) none (some (k : Int))) = _
  rw [cutD_take, ← List.map_take]
  rfl
theorem sorted_one {te : TE} {ρ : Rho} {ns : List Int} (h : DE K te ρ (.list (ns.map .int))) (hl : ns.length < 64) : DE K (tCB (rTupF K) (tCons (tCB (rSorted K) (tCons te tNil)) tNil)) ρ (encLot (srt ns)) :=
  de_cb (da_cons (de_cb (da_cons h da_nil) (c_sorted hl)) da_nil) c_tuple
theorem cal_beginnings_in (T : Fx K mg) (D : Def K mg "beginnings_in" s_beginnings_in) : Cal P w K mg base 1 "beginnings_in" ["index"] (spF K F_begs) := by
  have S := sc_beginnings_in
  refine mk_cal D S (fun ds r h => by obtain ⟨l, rfl, _⟩ := h; rfl) (fun _ _ _ _ _ _ us hl => match us, hl with | [_], _ => rfl) fun f cdv A outer s H E hr => ?_
  refine ⟨_, (pss_cons (ps_set (i := 1) S.nd rfl (by first | exact Or.inl rfl | exact Or.inr rfl) (pe_lc (own := [("step", 2)]) (g := gName 2) rfl S.nd (pi_seqK K (pv 0)) (blkOk_by (own := [("step", 2)]) (N := N_beginnings_in) (sc := defScope s_beginnings_in) (by decide +kernel)) (fun _ _ _ _ _ => (pg_name (i := 2) S.nd rfl (by first | exact Or.inl rfl | exact Or.inr rfl))) (fun _ _ _ _ _ => pts_nil) (fun _ _ _ _ _ => (pe_ix (ix_uK K) (pv 2) pe_int (fun _ _ => rfl)))))
        (pss_one (ps_ret (pe_lc (own := [("size", 3)]) (g := gName 3) rfl S.nd (pi_range1 rfl T.range (pa_cons (pe_op (op_plusK K) (pe_callB (call_lenK K) rfl T.len (by decide +kernel) (pa_cons (pv 1) pa_nil)) pe_int) pa_nil)) (blkOk_by (own := [("size", 3)]) (N := N_beginnings_in) (sc := defScope s_beginnings_in) (by decide +kernel)) (fun _ _ _ _ _ => (pg_name (i := 3) S.nd rfl (by first | exact Or.inl rfl | exact Or.inr rfl))) (fun _ _ _ _ _ => pts_nil) (fun _ _ _ _ _ => (pe_callTy (call_tupK K) rfl T.tuple (by decide +kernel) (pa_cons (pe_callB (cr_sortedK K) rfl T.sorted (by decide +kernel) (pa_cons (pe_slice (sl_uK K) (pv 1) po_none (po_some (pv 3))) pa_nil)) pa_nil))))))), fun ds r h => ?_⟩
  obtain ⟨ix, rfl, hl, rfl⟩ := h
  have hl' : ix.length ≤ 1000 := Nat.le_trans hl (by decide)
  refine dr_seq (dn_set (d := .list ((colsM ix).map .int)) ((de_map (items := ix) (enc := encStep) _ (fun s => .int s.1) (di_seq (de_var rfl) rfl) hl' (fun a _ => dg_name (by decide)) (fun a m => de_op (de_var rfl) de_int (r_ix (j := 0) rfl rfl rfl)) (fun _ => rfl)).is (by unfold colsM; rw [List.map_map]; rfl)))
    (dr_ret ((de_map (items := rgD (ix.length + 1)) (enc := .int) _ (fun i => encLot (srt ((colsM ix).take i.toNat))) (di_range (n := ix.length + 1) (da_cons ((de_op (de_cb (da_cons (de_var rfl) da_nil) (c_len rfl)) de_int r_plusI).is (by rw [List.length_map, colsM_len]; rfl)) da_nil) (by omega)) (by rw [rgD_len]; omega) (fun a _ => dg_name (by decide))
      (fun a m => sorted_one ((de_sl (de_var rfl) rfl do_none (do_some (de_var rfl))).is (cut_cols _ (by obtain ⟨i, rfl, _⟩ := rgD_mem m; omega))) (by rw [List.length_take, colsM_len]; omega)) (fun _ => frz_lot _)).is (by rw [rg_map (ix.length + 1) fun i => srt ((colsM ix).take i)]; rfl)))
end
end K3
set_option Elab.async false
set_option linter.all false
set_option maxRecDepth 100000
set_option maxHeartbeats 4000000
/-! Sets, ways: the package's and the law's. -/
namespace K3
open PySem PySem.Spec PyProof.Rows L2
section
variable {P : Program} {w : World} {K : PySem.W.Frag} {mg : Str → Option Value} {base : Heap}
theorem cal__law_begun (T : Fx K mg) (D : Def K mg "_law_begun" s__law_begun) : Cal P w K mg base 1 "_law_begun" ["_law_index_here"] (spF K F_begs) := by
  have S := sc__law_begun
  refine mk_cal D S (fun ds r h => by obtain ⟨l, rfl, _⟩ := h; rfl) (fun _ _ _ _ _ _ us hl => match us, hl with | [_], _ => rfl) fun f cdv A outer s H E hr => ?_
  refine ⟨_, (pss_cons (ps_set (i := 1) S.nd rfl (by first | exact Or.inl rfl | exact Or.inr rfl) (pe_lc (own := [("_law_step", 2)]) (g := gName 2) rfl S.nd (pi_seqK K (pv 0)) (blkOk_by (own := [("_law_step", 2)]) (N := N__law_begun) (sc := defScope s__law_begun) (by decide +kernel)) (fun _ _ _ _ _ => (pg_name (i := 2) S.nd rfl (by first | exact Or.inl rfl | exact Or.inr rfl))) (fun _ _ _ _ _ => pts_nil) (fun _ _ _ _ _ => (pe_ix (ix_uK K) (pv 2) pe_int (fun _ _ => rfl)))))
        (pss_one (ps_ret (pe_lc (own := [("_law_size", 3)]) (g := gName 3) rfl S.nd (pi_range1 rfl T.range (pa_cons (pe_op (op_plusK K) (pe_callB (call_lenK K) rfl T.len (by decide +kernel) (pa_cons (pv 1) pa_nil)) pe_int) pa_nil)) (blkOk_by (own := [("_law_size", 3)]) (N := N__law_begun) (sc := defScope s__law_begun) (by decide +kernel)) (fun _ _ _ _ _ => (pg_name (i := 3) S.nd rfl (by first | exact Or.inl rfl | exact Or.inr rfl))) (fun _ _ _ _ _ => pts_nil) (fun _ _ _ _ _ => (pe_callTy (call_tupK K) rfl T.tuple (by decide +kernel) (pa_cons (pe_callB (cr_sortedK K) rfl T.sorted (by decide +kernel) (pa_cons (pe_slice (sl_uK K) (pv 1) po_none (po_some (pv 3))) pa_nil)) pa_nil))))))), fun ds r h => ?_⟩
  obtain ⟨ix, rfl, hl, rfl⟩ := h
  have hl' : ix.length ≤ 1000 := Nat.le_trans hl (by decide)
  refine dr_seq (dn_set (d := .list ((colsM ix).map .int)) ((de_map (items := ix) (enc := encStep) _ (fun s => .int s.1) (di_seq (de_var rfl) rfl) hl' (fun a _ => dg_name (by decide)) (fun a m => de_op (de_var rfl) de_int (r_ix (j := 0) rfl rfl rfl)) (fun _ => rfl)).is (by unfold colsM; rw [List.map_map]; rfl)))
    (dr_ret ((de_map (items := rgD (ix.length + 1)) (enc := .int) _ (fun i => encLot (srt ((colsM ix).take i.toNat))) (di_range (n := ix.length + 1) (da_cons ((de_op (de_cb (da_cons (de_var rfl) da_nil) (c_len rfl)) de_int r_plusI).is (by rw [List.length_map, colsM_len]; rfl)) da_nil) (by omega)) (by rw [rgD_len]; omega) (fun a _ => dg_name (by decide))
      (fun a m => sorted_one ((de_sl (de_var rfl) rfl do_none (do_some (de_var rfl))).is (cut_cols _ (by obtain ⟨i, rfl, _⟩ := rgD_mem m; omega))) (by rw [List.length_take, colsM_len]; omega)) (fun _ => frz_lot _)).is (by rw [rg_map (ix.length + 1) fun i => srt ((colsM ix).take i)]; rfl)))
/-! ### sets -/
theorem cal_sets_in (T : Fx K mg) (D : Def K mg "sets_in" s_sets_in) : Cal P w K mg base 1 "sets_in" ["lookup"] (spF K F_sets) := by
  have S := sc_sets_in
  refine mk_cal D S (fun ds r h => by obtain ⟨l, rfl, _⟩ := h; rfl) (fun _ _ _ _ _ _ us hl => match us, hl with | [_], _ => rfl) fun f cdv A outer s H E hr => ?_
  refine ⟨_, (pss_cons (ps_asg (pv 0) (pg_tup rfl (pgs_cons (pg_name (i := 1) S.nd rfl (by first | exact Or.inl rfl | exact Or.inr rfl)) (pgs_cons (pg_name (i := 2) S.nd rfl (by first | exact Or.inl rfl | exact Or.inr rfl)) pgs_nil))))
        (pss_cons (ps_set (i := 3) S.nd rfl (by first | exact Or.inl rfl | exact Or.inr rfl) (pe_lc (own := [("step", 4)]) (g := gName 4) rfl S.nd (pi_seqK K (pv 2)) (blkOk_by (own := [("step", 4)]) (N := N_sets_in) (sc := defScope s_sets_in) (by decide +kernel)) (fun _ _ _ _ _ => (pg_name (i := 4) S.nd rfl (by first | exact Or.inl rfl | exact Or.inr rfl))) (fun _ _ _ _ _ => pts_nil) (fun _ _ _ _ _ => (pe_ix (ix_uK K) (pv 4) pe_int (fun _ _ => rfl)))))
        (pss_one (ps_ret (pe_lc (own := [("size", 5)]) (g := gName 5) rfl S.nd (pi_range1 rfl T.range (pa_cons (pe_op (op_plusK K) (pe_callB (call_lenK K) rfl T.len (by decide +kernel) (pa_cons (pv 3) pa_nil)) pe_int) pa_nil)) (blkOk_by (own := [("size", 5)]) (N := N_sets_in) (sc := defScope s_sets_in) (by decide +kernel)) (fun _ _ _ _ _ => (pg_name (i := 5) S.nd rfl (by first | exact Or.inl rfl | exact Or.inr rfl))) (fun _ _ _ _ _ => pts_nil) (fun _ _ _ _ _ => (pe_callTy (call_tupK K) rfl T.tuple (by decide +kernel) (pa_cons (pe_callB (cr_sortedK K) rfl T.sorted (by decide +kernel) (pa_cons (pe_op (op_plusK K) (pe_callTy (call_listK K) rfl T.list (by decide +kernel) (pa_cons (pv 1) pa_nil)) (pe_slice (sl_uK K) (pv 3) po_none (po_some (pv 5)))) pa_nil)) pa_nil)))))))), fun ds r h => ?_⟩
  obtain ⟨l, rfl, hl1, hl2, rfl⟩ := h
  refine dr_seq (dn_asg (de_var rfl) (dg_tup2 (vs := [1, 2]) (by decide) (by decide))) (dr_seq (dn_set (d := .list ((colsM l.2).map .int)) ((de_map (items := l.2) (enc := encStep) _ (fun s => .int s.1) (di_seq (de_var rfl) rfl) (Nat.le_trans hl2 (by decide)) (fun a _ => dg_name (by decide)) (fun a m => de_op (de_var rfl) de_int (r_ix (j := 0) rfl rfl rfl)) (fun _ => rfl)).is (by unfold colsM; rw [List.map_map]; rfl)))
    (dr_ret ((de_map (items := rgD (l.2.length + 1)) (enc := .int) _ (fun i => encLot (srt (l.1 ++ (colsM l.2).take i.toNat))) (di_range (n := l.2.length + 1) (da_cons ((de_op (de_cb (da_cons (de_var rfl) da_nil) (c_len rfl)) de_int r_plusI).is (by rw [List.length_map, colsM_len]; rfl)) da_nil) (by omega)) (by rw [rgD_len]; omega) (fun a _ => dg_name (by decide))
      (fun a m => sorted_one ((de_op (de_cb (da_cons (de_var rfl) da_nil) (c_list rfl)) ((de_sl (de_var rfl) rfl do_none (do_some (de_var rfl))).is (cut_cols _ (by obtain ⟨i, rfl, _⟩ := rgD_mem m; omega))) (r_plusL (by rw [List.length_map, List.length_map, List.length_take, colsM_len]; omega))).is (by rw [List.map_append])) (by rw [List.length_append, List.length_take, colsM_len]; omega)) (fun _ => frz_lot _)).is (by rw [rg_map (l.2.length + 1) fun i => srt (l.1 ++ (colsM l.2).take i)]; rfl))))
theorem cal__law_sets (T : Fx K mg) (D : Def K mg "_law_sets" s__law_sets) : Cal P w K mg base 1 "_law_sets" ["_law_lookup_here"] (spF K F_sets) := by
  have S := sc__law_sets
  refine mk_cal D S (fun ds r h => by obtain ⟨l, rfl, _⟩ := h; rfl) (fun _ _ _ _ _ _ us hl => match us, hl with | [_], _ => rfl) fun f cdv A outer s H E hr => ?_
  refine ⟨_, (pss_cons (ps_asg (pv 0) (pg_tup rfl (pgs_cons (pg_name (i := 1) S.nd rfl (by first | exact Or.inl rfl | exact Or.inr rfl)) (pgs_cons (pg_name (i := 2) S.nd rfl (by first | exact Or.inl rfl | exact Or.inr rfl)) pgs_nil))))
        (pss_cons (ps_set (i := 3) S.nd rfl (by first | exact Or.inl rfl | exact Or.inr rfl) (pe_lc (own := [("_law_step", 4)]) (g := gName 4) rfl S.nd (pi_seqK K (pv 2)) (blkOk_by (own := [("_law_step", 4)]) (N := N__law_sets) (sc := defScope s__law_sets) (by decide +kernel)) (fun _ _ _ _ _ => (pg_name (i := 4) S.nd rfl (by first | exact Or.inl rfl | exact Or.inr rfl))) (fun _ _ _ _ _ => pts_nil) (fun _ _ _ _ _ => (pe_ix (ix_uK K) (pv 4) pe_int (fun _ _ => rfl)))))
        (pss_one (ps_ret (pe_lc (own := [("_law_size", 5)]) (g := gName 5) rfl S.nd (pi_range1 rfl T.range (pa_cons (pe_op (op_plusK K) (pe_callB (call_lenK K) rfl T.len (by decide +kernel) (pa_cons (pv 3) pa_nil)) pe_int) pa_nil)) (blkOk_by (own := [("_law_size", 5)]) (N := N__law_sets) (sc := defScope s__law_sets) (by decide +kernel)) (fun _ _ _ _ _ => (pg_name (i := 5) S.nd rfl (by first | exact Or.inl rfl | exact Or.inr rfl))) (fun _ _ _ _ _ => pts_nil) (fun _ _ _ _ _ => (pe_callTy (call_tupK K) rfl T.tuple (by decide +kernel) (pa_cons (pe_callB (cr_sortedK K) rfl T.sorted (by decide +kernel) (pa_cons (pe_op (op_plusK K) (pe_callTy (call_listK K) rfl T.list (by decide +kernel) (pa_cons (pv 1) pa_nil)) (pe_slice (sl_uK K) (pv 3) po_none (po_some (pv 5)))) pa_nil)) pa_nil)))))))), fun ds r h => ?_⟩
  obtain ⟨l, rfl, hl1, hl2, rfl⟩ := h
  refine dr_seq (dn_asg (de_var rfl) (dg_tup2 (vs := [1, 2]) (by decide) (by decide))) (dr_seq (dn_set (d := .list ((colsM l.2).map .int)) ((de_map (items := l.2) (enc := encStep) _ (fun s => .int s.1) (di_seq (de_var rfl) rfl) (Nat.le_trans hl2 (by decide)) (fun a _ => dg_name (by decide)) (fun a m => de_op (de_var rfl) de_int (r_ix (j := 0) rfl rfl rfl)) (fun _ => rfl)).is (by unfold colsM; rw [List.map_map]; rfl)))
    (dr_ret ((de_map (items := rgD (l.2.length + 1)) (enc := .int) _ (fun i => encLot (srt (l.1 ++ (colsM l.2).take i.toNat))) (di_range (n := l.2.length + 1) (da_cons ((de_op (de_cb (da_cons (de_var rfl) da_nil) (c_len rfl)) de_int r_plusI).is (by rw [List.length_map, colsM_len]; rfl)) da_nil) (by omega)) (by rw [rgD_len]; omega) (fun a _ => dg_name (by decide))
      (fun a m => sorted_one ((de_op (de_cb (da_cons (de_var rfl) da_nil) (c_list rfl)) ((de_sl (de_var rfl) rfl do_none (do_some (de_var rfl))).is (cut_cols _ (by obtain ⟨i, rfl, _⟩ := rgD_mem m; omega))) (r_plusL (by rw [List.length_map, List.length_map, List.length_take, colsM_len]; omega))).is (by rw [List.map_append])) (by rw [List.length_append, List.length_take, colsM_len]; omega)) (fun _ => frz_lot _)).is (by rw [rg_map (l.2.length + 1) fun i => srt (l.1 ++ (colsM l.2).take i)]; rfl))))
abbrev C_beginnings_inT (P : Program) (w : World) (K : PySem.W.Frag) (mg : Str → Option Value) (base : Heap) := Cal P w K mg base 1 "beginnings_in" ["index"] (spF K F_begs)
abbrev C__law_begunT (P : Program) (w : World) (K : PySem.W.Frag) (mg : Str → Option Value) (base : Heap) := Cal P w K mg base 1 "_law_begun" ["_law_index_here"] (spF K F_begs)
abbrev C_sets_inT (P : Program) (w : World) (K : PySem.W.Frag) (mg : Str → Option Value) (base : Heap) := Cal P w K mg base 1 "sets_in" ["lookup"] (spF K F_sets)
abbrev C__law_setsT (P : Program) (w : World) (K : PySem.W.Frag) (mg : Str → Option Value) (base : Heap) := Cal P w K mg base 1 "_law_sets" ["_law_lookup_here"] (spF K F_sets)
/-! ### likeness -/
def F_likeness : List PyData → PyData → Prop := fun ds r => ∃ sort ss : List Stp, ds = [encSteps sort, encSteps ss] ∧ sort.length ≤ 8 ∧ (ss.map (·.1)).Nodup ∧ r = .int (likeM sort ss)
theorem cal_likeness (T : Fx K mg) (D : Def K mg "likeness" s_likeness) : Cal P w K mg base 1 "likeness" ["sort", "steps"] (spF K F_likeness) := by
  have S := sc_likeness
  refine mk_cal D S (fun ds r h => by obtain ⟨a, b, rfl, _⟩ := h; rfl) (fun _ _ _ _ _ _ us hl => match us, hl with | [_, _], _ => rfl) fun f cdv A outer s H E hr => ?_
  have hu64 := hu64_of hr
  have hu := hu_of hr
  refine ⟨_, (pss_cons (ps_set (i := 2) S.nd rfl (by first | exact Or.inl rfl | exact Or.inr rfl) (pe_callTy (call_dictK K rfl) rfl T.dict (by decide +kernel) (pa_cons (pv 1) pa_nil)))
        (pss_cons (ps_setLc (i := 3) (own := [("column", 4), ("way", 5)]) (g := gTup K 2 (gCons (gName 4) (gCons (gName 5) gNil))) rfl S.nd rfl rfl (sw_true rfl rfl rfl (by decide +kernel)) (pi_seqK K (pv 0)) (blkOk_by (own := [("column", 4), ("way", 5)]) (N := N_likeness) (sc := defScope s_likeness) (by decide +kernel)) (fun _ _ _ _ _ => (pg_tup rfl (pgs_cons (pg_name (i := 4) S.nd rfl (by first | exact Or.inl rfl | exact Or.inr rfl)) (pgs_cons (pg_name (i := 5) S.nd rfl (by first | exact Or.inl rfl | exact Or.inr rfl)) pgs_nil)))) (fun _ _ _ _ _ => pts_nil) (fun _ _ _ _ _ => (pe_cmpR (op_eqK K hu64) (pe_dget1 hu (pv 2) (pv 4) ⟨rfl, rfl, rfl, rfl⟩) (pv 5) (nomark _))))
        (pss_cons (ps_if (pt_not (pt_val (pe_callB (cr_allK K rfl) rfl T.all (by decide +kernel) (pa_cons (pe_lc (own := [("column", 4), ("way", 5)]) (g := gTup K 2 (gCons (gName 4) (gCons (gName 5) gNil))) rfl S.nd (pi_seqK K (pv 0)) (blkOk_by (own := [("column", 4), ("way", 5)]) (N := N_likeness) (sc := defScope s_likeness) (by decide +kernel)) (fun _ _ _ _ _ => (pg_tup rfl (pgs_cons (pg_name (i := 4) S.nd rfl (by first | exact Or.inl rfl | exact Or.inr rfl)) (pgs_cons (pg_name (i := 5) S.nd rfl (by first | exact Or.inl rfl | exact Or.inr rfl)) pgs_nil)))) (fun _ _ _ _ _ => pts_nil) (fun _ _ _ _ _ => (pe_cmp (pc_din hu (pv 4) (pv 2)) rfl))) pa_nil)))) (pss_one (ps_ret pe_int)) pss_nil)
        (pss_cons (ps_if (pt_val (pe_callB (cr_allK K rfl) rfl T.all (by decide +kernel) (pa_cons (pv 3) pa_nil))) (pss_one (ps_ret pe_int)) pss_nil)
        (pss_one (ps_ret (pe_ifExp (pt_val (pe_callB (cr_anyK K rfl) rfl T.any (by decide +kernel) (pa_cons (pv 3) pa_nil))) pe_int (pe_un un_neg pe_int)))))))), fun ds r h => ?_⟩
  obtain ⟨sort, ss, rfl, hl, hn, rfl⟩ := h
  have hl' : sort.length ≤ 1000 := Nat.le_trans hl (by decide)
  refine dr_seq (dn_dict (ss := ss) (de_var rfl)) (dr_seq (dn_set (d := .list (sort.map fun s => .bool (decide (s ∈ ss)))) (de_map (items := sort) (enc := encStep) _ (fun s => .bool (decide (s ∈ ss))) (di_seq (de_var rfl) rfl) hl' (fun a _ => dg_tup2 (by decide) (by decide))
      (fun a m => (de_op (de_dget (de_var rfl) rfl fun H => known_dp hn a.1) (de_var rfl) (r_eqD (got_sh ss a.1) (sh_way a.2))).is (congrArg PyData.bool (got_eqv hn a))) (fun _ => rfl))) ?_)
  refine dr_guard (dt_not (dt_B (de_cb (da_cons (de_map (items := sort) (enc := encStep) _ (fun s => .bool (inK ss s.1)) (di_seq (de_var rfl) rfl) hl' (fun a _ => dg_tup2 (by decide) (by decide))
      (fun a m => (de_din (de_var rfl) rfl).is (congrArg PyData.bool (known_in hn a.1))) (fun _ => rfl)) da_nil) (c_allM (g := fun s : Stp => inK ss s.1))))) (fun z => de_int.is ?_) fun z => dr_guard (dt_B (de_cb (da_cons (de_var rfl) da_nil) (c_allM (g := fun s : Stp => decide (s ∈ ss))))) (fun z2 => de_int.is ?_) fun z2 =>
      dr_ret (de_if (dt_B (de_cb (da_cons (de_var rfl) da_nil) (c_anyM (g := fun s : Stp => decide (s ∈ ss))))) (fun z3 => de_int.is ?_) fun z3 => (de_un (j := -1) de_int fun H Q q => ⟨1, rfl, q⟩).is ?_)
  · have hk : ¬ (sort.all fun s => inK ss s.1) = true := fun k => by rw [k] at z; cases z
    unfold likeM
    rw [if_neg hk]
  · have hk : (sort.all fun s => inK ss s.1) = true := by
      cases k : (sort.all fun s => inK ss s.1) with
      | true => rfl
      | false => rw [k] at z; cases z
    unfold likeM
    rw [if_pos hk, if_pos z2]
  · have hk : (sort.all fun s => inK ss s.1) = true := by
      cases k : (sort.all fun s => inK ss s.1) with
      | true => rfl
      | false => rw [k] at z; cases z
    unfold likeM
    rw [if_pos hk, z2, if_neg (by decide), if_pos z3]
  · have hk : (sort.all fun s => inK ss s.1) = true := by
      cases k : (sort.all fun s => inK ss s.1) with
      | true => rfl
      | false => rw [k] at z; cases z
    unfold likeM
    rw [if_pos hk, z2, if_neg (by decide), z3, if_neg (by decide)]
abbrev C_likenessT (P : Program) (w : World) (K : PySem.W.Frag) (mg : Str → Option Value) (base : Heap) := Cal P w K mg base 1 "likeness" ["sort", "steps"] (spF K F_likeness)
/-! ### way_in -/
def F_way : List PyData → PyData → Prop := fun ds r => ∃ (ix : List Stp) (l : Lk), ds = [encSteps ix, encLk l] ∧ ix.length ≤ 8 ∧ (ix.map (·.1)).Nodup ∧ l.1.length ≤ 8 ∧ l.2.length ≤ 8 ∧ r = wayD (wayM ix l)
theorem setsM_len (l : Lk) : (setsM l).length = l.2.length + 1 := by
  unfold setsM
  rw [List.length_map, List.length_range]
theorem cal_way_in (T : Fx K mg) (D : Def K mg "way_in" s_way_in) (C_beginnings_in : C_beginnings_inT P w K mg base) (C_sets_in : C_sets_inT P w K mg base) (C_likeness : C_likenessT P w K mg base) : Cal P w K mg base 2 "way_in" ["index", "lookup"] (spF K F_way) := by
  have S := sc_way_in
  refine mk_cal D S (fun ds r h => by obtain ⟨a, b, rfl, _⟩ := h; rfl) (fun _ _ _ _ _ _ us hl => match us, hl with | [_, _], _ => rfl) fun f cdv A outer s H E hr => ?_
  have hu64 := hu64_of hr
  have hu65 := hu65_of hr
  refine ⟨_, (pss_cons (ps_set (i := 2) S.nd rfl (by first | exact Or.inl rfl | exact Or.inr rfl) (pe_cal C_beginnings_in hr (by decide) rfl (pa_cons (pv 0) pa_nil)))
        (pss_cons (ps_if (pt_not (pt_val (pe_callB (cr_allK K rfl) rfl T.all (by decide +kernel) (pa_cons (pe_lc (own := [("lot", 4)]) (g := gName 4) rfl S.nd (pi_seqK K (pe_cal C_sets_in hr (by decide) rfl (pa_cons (pv 1) pa_nil))) (blkOk_by (own := [("lot", 4)]) (N := N_way_in) (sc := defScope s_way_in) (by decide +kernel)) (fun _ _ _ _ _ => (pg_name (i := 4) S.nd rfl (by first | exact Or.inl rfl | exact Or.inr rfl))) (fun _ _ _ _ _ => pts_nil) (fun _ _ _ _ _ => (pe_cmpR (op_inK K hu65) (pv 4) (pv 2) rfl))) pa_nil)))) (pss_one (ps_ret pe_non)) pss_nil)
        (pss_cons (ps_set (i := 3) S.nd rfl (by first | exact Or.inl rfl | exact Or.inr rfl) (pe_cal C_likeness hr (by decide) rfl (pa_cons (pe_ix (ix_uK K) (pv 1) pe_int (fun _ _ => rfl)) (pa_cons (pv 0) pa_nil))))
        (pss_cons (ps_if (pt_cmpR (op_eqK K hu64) (pv 3) pe_int (nomark _)) (pss_one (ps_ret pe_non)) pss_nil)
        (pss_one (ps_ret (pe_ifExp (pt_cmpR (op_eqK K hu64) (pv 3) pe_int (nomark _)) (pe_gstr rfl T.FORWARD) (pe_gstr rfl T.BACKWARD)))))))), fun ds r h => ?_⟩
  obtain ⟨ix, l, rfl, hl, hn, hl1, hl2, rfl⟩ := h
  have key := likeM_way (sort := l.2) hn
  refine dr_seq (dn_set (de_call (da_cons (de_var rfl) da_nil) ⟨ix, rfl, hl, rfl⟩)) (dr_guard (dt_not (dt_B (de_cb (da_cons (de_map (items := setsM l) (enc := encLot) _ (fun x => .bool (decide (x ∈ begM ix))) (di_seq (de_call (da_cons (de_var rfl) da_nil) ⟨l, rfl, hl1, hl2, rfl⟩) rfl) (by rw [setsM_len]; omega) (fun a _ => dg_name (by decide))
      (fun a m => (de_op (de_var rfl) (de_var rfl) (r_inU (neg := false) rfl (sh_lot a) (sh_lots _))).is (congrArg PyData.bool (any_lot (begM ix) a))) (fun _ => rfl)) da_nil) (c_allM (g := fun x : List Int => decide (x ∈ begM ix)))))) (fun z => de_non.is ?_) fun z =>
    dr_seq (dn_set (de_call (da_cons (de_op (de_var rfl) de_int (r_ix (j := 1) rfl rfl rfl)) (da_cons (de_var rfl) da_nil)) ⟨l.2, ix, rfl, hl2, hn, rfl⟩))
    (dr_guard (dt_test ((de_op (de_var rfl) de_int (r_eqD (sh_int _) (sh_int _))).is (congrArg PyData.bool (eqv_int _ _)))) (fun z2 => de_non.is ?_) fun z2 =>
    dr_ret (de_if (dt_test ((de_op (de_var rfl) de_int (r_eqD (sh_int _) (sh_int _))).is (congrArg PyData.bool (eqv_int _ _)))) (fun z3 => de_str.is ?_) fun z3 => de_str.is ?_)))
  · have hk : ¬ setsIn ix l = true := fun k => by
      unfold setsIn at k
      rw [k] at z
      cases z
    unfold wayM
    rw [if_neg hk]
    rfl
  all_goals
    have hk : setsIn ix l = true := by
      cases k : setsIn ix l with
      | true => rfl
      | false =>
        unfold setsIn at k
        rw [k] at z
        cases z
    unfold wayM
    rw [if_pos hk, ← key]
  · rw [if_pos (of_decide_eq_true z2)]
    rfl
  · rw [if_neg (of_decide_eq_false z2), if_pos (of_decide_eq_true z3)]
    rfl
  · rw [if_neg (of_decide_eq_false z2), if_neg (of_decide_eq_false z3)]
    rfl
abbrev C_way_inT (P : Program) (w : World) (K : PySem.W.Frag) (mg : Str → Option Value) (base : Heap) := Cal P w K mg base 2 "way_in" ["index", "lookup"] (spF K F_way)
end
end K3
set_option Elab.async false
set_option linter.all false
set_option maxRecDepth 100000
set_option maxHeartbeats 4000000
/-! The law's own way; ways, demands, what is served. -/
namespace K3
open PySem PySem.Spec PyProof.Rows L2
section
variable {P : Program} {w : World} {K : PySem.W.Frag} {mg : Str → Option Value} {base : Heap}
/-! ### turned -/
def F_turned : List PyData → PyData → Prop := fun ds r => ∃ ss : List Stp, ds = [encSteps ss] ∧ ss.length ≤ 8 ∧ r = encSteps (turnM ss)
theorem sh_up : SeqAt.shaped (.str "up") = true := sh_way true
theorem eqv_up (b : Bool) : PyData.eqv (.str (wS b)) (.str "up") = b := by
  cases b <;> decide +kernel
theorem cal__law_turned (T : Fx K mg) (D : Def K mg "_law_turned" s__law_turned) : Cal P w K mg base 1 "_law_turned" ["_law_steps_here"] (spF K F_turned) := by
  have S := sc__law_turned
  refine mk_cal D S (fun ds r h => by obtain ⟨a, rfl, _⟩ := h; rfl) (fun _ _ _ _ _ _ us hl => match us, hl with | [_], _ => rfl) fun f cdv A outer s H E hr => ?_
  have hu64 := hu64_of hr
  refine ⟨_, (pss_one (ps_ret (pe_callTy (call_tupK K) rfl T.tuple (by decide +kernel) (pa_cons (pe_lc (own := [("_law_column", 1), ("_law_way_here", 2)]) (g := gTup K 2 (gCons (gName 1) (gCons (gName 2) gNil))) rfl S.nd (pi_seqK K (pv 0)) (blkOk_by (own := [("_law_column", 1), ("_law_way_here", 2)]) (N := N__law_turned) (sc := defScope s__law_turned) (by decide +kernel)) (fun _ _ _ _ _ => (pg_tup rfl (pgs_cons (pg_name (i := 1) S.nd rfl (by first | exact Or.inl rfl | exact Or.inr rfl)) (pgs_cons (pg_name (i := 2) S.nd rfl (by first | exact Or.inl rfl | exact Or.inr rfl)) pgs_nil)))) (fun _ _ _ _ _ => pts_nil) (fun _ _ _ _ _ => (pe_tupF (pa_cons (pv 1) (pa_cons (pe_ifExp (pt_cmpR (op_eqK K hu64) (pv 2) pe_str (nomark _)) pe_str pe_str) pa_nil))))) pa_nil)))), fun ds r h => ?_⟩
  obtain ⟨ss, rfl, hl, rfl⟩ := h
  exact dr_ret ((de_cb (da_cons (de_map (items := ss) (enc := encStep) _ (fun s => encStep (s.1, !s.2)) (di_seq (de_var rfl) rfl) (Nat.le_trans hl (by decide)) (fun a _ => dg_tup2 (by decide) (by decide))
    (fun a m => de_tup (da_cons (de_var rfl) (da_cons (de_if (d := .str (wS (!a.2))) (b := a.2) (dt_test ((de_op (de_var rfl) de_str (r_eqD (sh_way a.2) sh_up)).is (congrArg PyData.bool (eqv_up a.2)))) (fun z => de_str.is (by rw [z]; rfl)) (fun z => de_str.is (by rw [z]; rfl))) da_nil)) (show 2 ≤ 1000 by decide)) (fun _ => rfl)) da_nil) c_tuple).is (by unfold turnM encSteps; rw [List.map_map]; rfl))
abbrev C__law_turnedT (P : Program) (w : World) (K : PySem.W.Frag) (mg : Str → Option Value) (base : Heap) := Cal P w K mg base 1 "_law_turned" ["_law_steps_here"] (spF K F_turned)
/-! ### the law's way -/
theorem sh_lnil : SeqAt.shaped (.list []) = true := by decide +kernel
theorem sh_ones {α : Type} (l : List α) : SeqAt.shaped (.list (l.map fun _ => PyData.int 1)) = true := by
  have h := sh_ints (l.map fun _ => 1)
  rw [List.map_map] at h
  exact h
theorem turnM_len (ss : List Stp) : (turnM ss).length = ss.length := List.length_map ..
theorem cal__law_way (T : Fx K mg) (D : Def K mg "_law_way" s__law_way) (C__law_begun : C__law_begunT P w K mg base) (C__law_sets : C__law_setsT P w K mg base) (C__law_turned : C__law_turnedT P w K mg base) : Cal P w K mg base 2 "_law_way" ["_law_index_here", "_law_lookup_here"] (spF K F_way) := by
  have S := sc__law_way
  refine mk_cal D S (fun ds r h => by obtain ⟨a, b, rfl, _⟩ := h; rfl) (fun _ _ _ _ _ _ us hl => match us, hl with | [_, _], _ => rfl) fun f cdv A outer s H E hr => ?_
  have hu64 := hu64_of hr
  have hu65 := hu65_of hr
  refine ⟨_, (pss_cons (ps_set (i := 2) S.nd rfl (by first | exact Or.inl rfl | exact Or.inr rfl) (pe_cal C__law_begun hr (by decide) rfl (pa_cons (pv 0) pa_nil)))
        (pss_cons (ps_if (pt_cmpR (op_neK K hu64) (pe_lc (own := [("_law_lot", 4)]) (g := gName 4) rfl S.nd (pi_seqK K (pe_cal C__law_sets hr (by decide) rfl (pa_cons (pv 1) pa_nil))) (blkOk_by (own := [("_law_lot", 4)]) (N := N__law_way) (sc := defScope s__law_way) (by decide +kernel)) (fun _ _ _ _ _ => (pg_name (i := 4) S.nd rfl (by first | exact Or.inl rfl | exact Or.inr rfl))) (fun _ _ _ _ _ => (pts_one (pt_cmpR (op_notInK K hu65) (pv 4) (pv 2) rfl))) (fun _ _ _ _ _ => pe_int)) (pe_lst pa_nil) (nomark _)) (pss_one (ps_ret pe_non)) pss_nil)
        (pss_cons (ps_if (pt_cmpR (op_eqK K hu64) (pe_lc (own := [("_law_step", 5)]) (g := gName 5) rfl S.nd (pi_seqK K (pe_ix (ix_uK K) (pv 1) pe_int (fun _ _ => rfl))) (blkOk_by (own := [("_law_step", 5)]) (N := N__law_way) (sc := defScope s__law_way) (by decide +kernel)) (fun _ _ _ _ _ => (pg_name (i := 5) S.nd rfl (by first | exact Or.inl rfl | exact Or.inr rfl))) (fun _ _ _ _ _ => (pts_one (pt_cmpR (op_notInK K hu65) (pv 5) (pv 0) rfl))) (fun _ _ _ _ _ => pe_int)) (pe_lst pa_nil) (nomark _)) (pss_one (ps_ret pe_str)) pss_nil)
        (pss_cons (ps_set (i := 3) S.nd rfl (by first | exact Or.inl rfl | exact Or.inr rfl) (pe_cal C__law_turned hr (by decide) rfl (pa_cons (pe_ix (ix_uK K) (pv 1) pe_int (fun _ _ => rfl)) pa_nil)))
        (pss_one (ps_ret (pe_ifExp (pt_cmpR (op_eqK K hu64) (pe_lc (own := [("_law_step", 5)]) (g := gName 5) rfl S.nd (pi_seqK K (pv 3)) (blkOk_by (own := [("_law_step", 5)]) (N := N__law_way) (sc := defScope s__law_way) (by decide +kernel)) (fun _ _ _ _ _ => (pg_name (i := 5) S.nd rfl (by first | exact Or.inl rfl | exact Or.inr rfl))) (fun _ _ _ _ _ => (pts_one (pt_cmpR (op_notInK K hu65) (pv 5) (pv 0) rfl))) (fun _ _ _ _ _ => pe_int)) (pe_lst pa_nil) (nomark _)) pe_str pe_non))))))), fun ds r h => ?_⟩
  obtain ⟨ix, l, rfl, hl, hn, hl1, hl2, rfl⟩ := h
  have hl' : l.2.length ≤ 1000 := Nat.le_trans hl2 (by decide)
  refine dr_seq (dn_set (de_call (da_cons (de_var rfl) da_nil) ⟨ix, rfl, hl, rfl⟩)) (dr_guard (dt_test (de_op (de_lc (items := setsM l) (enc := encLot) _ (fun x => !decide (x ∈ begM ix)) (fun _ => .int 1) (di_seq (de_call (da_cons (de_var rfl) da_nil) ⟨l, rfl, hl1, hl2, rfl⟩) rfl) (by rw [setsM_len]; omega) (fun a _ => dg_name (by decide))
      (fun a m => dt_test ((de_op (de_var rfl) (de_var rfl) (r_inU (neg := true) rfl (sh_lot a) (sh_lots _))).is (congrArg (fun b => PyData.bool (!b)) (any_lot (begM ix) a)))) (fun a m z => de_int) (fun _ => rfl)) (de_lst da_nil (by decide)) (r_neD (sh_ones _) sh_lnil))) (fun z => de_non.is ?_) fun z =>
    dr_guard (dt_test (de_op (de_lc (items := l.2) (enc := encStep) _ (fun x => !decide (x ∈ ix)) (fun _ => .int 1) (di_seq (de_op (de_var rfl) de_int (r_ix (j := 1) rfl rfl rfl)) rfl) hl' (fun a _ => dg_name (by decide))
      (fun a m => dt_test ((de_op (de_var rfl) (de_var rfl) (r_inU (neg := true) rfl (sh_step a) (sh_steps _))).is (congrArg (fun b => PyData.bool (!b)) (any_step ix a)))) (fun a m z => de_int) (fun _ => rfl)) (de_lst da_nil (by decide)) (r_eqD (sh_ones _) sh_lnil))) (fun z2 => de_str.is ?_) fun z2 =>
    dr_seq (dn_set (de_call (da_cons (de_op (de_var rfl) de_int (r_ix (j := 1) rfl rfl rfl)) da_nil) ⟨l.2, rfl, hl2, rfl⟩))
    (dr_ret (de_if (dt_test (de_op (de_lc (items := turnM l.2) (enc := encStep) _ (fun x => !decide (x ∈ ix)) (fun _ => .int 1) (di_seq (de_var rfl) rfl) (by rw [turnM_len]; exact hl') (fun a _ => dg_name (by decide))
      (fun a m => dt_test ((de_op (de_var rfl) (de_var rfl) (r_inU (neg := true) rfl (sh_step a) (sh_steps _))).is (congrArg (fun b => PyData.bool (!b)) (any_step ix a)))) (fun a m z => de_int) (fun _ => rfl)) (de_lst da_nil (by decide)) (r_eqD (sh_ones _) sh_lnil))) (fun z3 => de_str.is ?_) fun z3 => de_non.is ?_)))
  all_goals rw [list_nil_eqv, none_left] at z
  · have hk : ¬ setsIn ix l = true := fun k => by
      unfold setsIn at k
      rw [k] at z
      cases z
    unfold wayM
    rw [if_neg hk]
    rfl
  all_goals
    have hk : setsIn ix l = true := by
      cases k : setsIn ix l with
      | true => rfl
      | false =>
        unfold setsIn at k
        rw [k] at z
        cases z
    rw [list_nil_eqv, none_left] at z2
    unfold wayM
    rw [if_pos hk, z2]
  · rfl
  · rw [list_nil_eqv, none_left] at z3
    rw [z3]
    rfl
  · rw [list_nil_eqv, none_left] at z3
    rw [z3]
    rfl
abbrev C__law_wayT (P : Program) (w : World) (K : PySem.W.Frag) (mg : Str → Option Value) (base : Heap) := Cal P w K mg base 2 "_law_way" ["_law_index_here", "_law_lookup_here"] (spF K F_way)
/-! ### way_of, does_serve, beginnings -/
def F_way_of : List PyData → PyData → Prop := fun ds r => ∃ (c : Int) (ix : List Stp) (l : Lk), ds = [.int c, encSteps ix, encLk l] ∧ 1 ≤ c ∧ c ≤ 8 ∧ IxOk c ix ∧ LkOk c l ∧ r = wayD (wayM ix l)
theorem cal_way_of (T : Fx K mg) (D : Def K mg "way_of" s_way_of) (C_need_index : C_need_indexT P w K mg base) (C_need_lookup_of : C_need_lookup_ofT P w K mg base) (C_way_in : C_way_inT P w K mg base) : Cal P w K mg base 8 "way_of" ["columns", "index", "lookup"] (spF K F_way_of) := by
  have S := sc_way_of
  refine mk_cal D S (fun ds r h => by obtain ⟨a, b, c, rfl, _⟩ := h; rfl) (fun _ _ _ _ _ _ us hl => match us, hl with | [_, _, _], _ => rfl) fun f cdv A outer s H E hr => ?_
  refine ⟨_, (pss_cons (ps_expr (pe_cal C_need_index hr (by decide) rfl (pa_cons (pv 0) (pa_cons (pv 1) pa_nil))))
        (pss_cons (ps_expr (pe_cal C_need_lookup_of hr (by decide) rfl (pa_cons (pv 0) (pa_cons (pv 2) pa_nil))))
        (pss_one (ps_ret (pe_cal C_way_in hr (by decide) rfl (pa_cons (pv 1) (pa_cons (pv 2) pa_nil))))))), fun ds r h => ?_⟩
  obtain ⟨c, ix, l, rfl, h1, h2, h3, h4, rfl⟩ := h
  exact dr_seq (dn_drop (de_call (da_cons (de_var rfl) (da_cons (de_var rfl) da_nil)) ⟨c, ix, rfl, h1, h2, h3, rfl⟩)) (dr_seq (dn_drop (de_call (da_cons (de_var rfl) (da_cons (de_var rfl) da_nil)) ⟨⟨c, l, rfl, h4⟩, rfl⟩))
    (dr_ret (de_call (da_cons (de_var rfl) (da_cons (de_var rfl) da_nil)) ⟨ix, l, rfl, h3.1.2.2, h3.1.2.1, h4.1.2.2, h4.2.1.2.2, rfl⟩)))
abbrev C_way_ofT (P : Program) (w : World) (K : PySem.W.Frag) (mg : Str → Option Value) (base : Heap) := Cal P w K mg base 8 "way_of" ["columns", "index", "lookup"] (spF K F_way_of)
def F_does_serve : List PyData → PyData → Prop := fun ds r => ∃ (c : Int) (ix : List Stp) (l : Lk), ds = [.int c, encSteps ix, encLk l] ∧ 1 ≤ c ∧ c ≤ 8 ∧ IxOk c ix ∧ LkOk c l ∧ r = .bool (wayM ix l).isSome
def wayV : Option Bool → V
  | none => .non
  | some true => .str "forward"
  | some false => .str "backward"
theorem wayV_scal (o : Option Bool) : scalD (wayD o) = some (wayV o) := by
  cases o with
  | none => rfl
  | some b => cases b <;> rfl
theorem wayV_some (o : Option Bool) : (!decide (wayV o = .non)) = o.isSome := by
  cases o with
  | none => rfl
  | some b => cases b <;> rfl
theorem cal_does_serve (T : Fx K mg) (D : Def K mg "does_serve" s_does_serve) (C_way_of : C_way_ofT P w K mg base) : Cal P w K mg base 9 "does_serve" ["columns", "index", "lookup"] (spF K F_does_serve) := by
  have S := sc_does_serve
  refine mk_cal D S (fun ds r h => by obtain ⟨a, b, c, rfl, _⟩ := h; rfl) (fun _ _ _ _ _ _ us hl => match us, hl with | [_, _, _], _ => rfl) fun f cdv A outer s H E hr => ?_
  refine ⟨_, (pss_one (ps_ret (pe_cmpR (op_notN) (pe_cal C_way_of hr (by decide) rfl (pa_cons (pv 0) (pa_cons (pv 1) (pa_cons (pv 2) pa_nil)))) pe_non (nomark _)))), fun ds r h => ?_⟩
  obtain ⟨c, ix, l, rfl, h1, h2, h3, h4, rfl⟩ := h
  exact dr_ret ((de_op (de_call (da_cons (de_var rfl) (da_cons (de_var rfl) (da_cons (de_var rfl) da_nil))) ⟨c, ix, l, rfl, h1, h2, h3, h4, rfl⟩) de_non (r_notN (wayV_scal _))).is (congrArg PyData.bool (wayV_some _)))
abbrev C_does_serveT (P : Program) (w : World) (K : PySem.W.Frag) (mg : Str → Option Value) (base : Heap) := Cal P w K mg base 9 "does_serve" ["columns", "index", "lookup"] (spF K F_does_serve)
def F_beginnings : List PyData → PyData → Prop := fun ds r => ∃ (c : Int) (ix : List Stp), ds = [.int c, encSteps ix] ∧ 1 ≤ c ∧ c ≤ 8 ∧ IxOk c ix ∧ r = .tuple ((begM ix).map encLot)
theorem cal_beginnings (T : Fx K mg) (D : Def K mg "beginnings" s_beginnings) (C_beginnings_in : C_beginnings_inT P w K mg base) (C_need_index : C_need_indexT P w K mg base) : Cal P w K mg base 8 "beginnings" ["columns", "index"] (spF K F_beginnings) := by
  have S := sc_beginnings
  refine mk_cal D S (fun ds r h => by obtain ⟨a, b, rfl, _⟩ := h; rfl) (fun _ _ _ _ _ _ us hl => match us, hl with | [_, _], _ => rfl) fun f cdv A outer s H E hr => ?_
  refine ⟨_, (pss_one (ps_ret (pe_callTy (call_tupK K) rfl T.tuple (by decide +kernel) (pa_cons (pe_cal C_beginnings_in hr (by decide) rfl (pa_cons (pe_cal C_need_index hr (by decide) rfl (pa_cons (pv 0) (pa_cons (pv 1) pa_nil))) pa_nil)) pa_nil)))), fun ds r h => ?_⟩
  obtain ⟨c, ix, rfl, h1, h2, h3, rfl⟩ := h
  exact dr_ret (de_cb (da_cons (de_call (da_cons (de_call (da_cons (de_var rfl) (da_cons (de_var rfl) da_nil)) ⟨c, ix, rfl, h1, h2, h3, rfl⟩) da_nil) ⟨ix, rfl, h3.1.2.2, rfl⟩) da_nil) c_tuple)
abbrev C_beginningsT (P : Program) (w : World) (K : PySem.W.Frag) (mg : Str → Option Value) (base : Heap) := Cal P w K mg base 8 "beginnings" ["columns", "index"] (spF K F_beginnings)
end
end K3
set_option Elab.async false
set_option linter.all false
set_option maxRecDepth 100000
set_option maxHeartbeats 4000000
/-! Demands; which lookups are served. -/
namespace K3
open PySem PySem.Spec PyProof.Rows L2
section
variable {P : Program} {w : World} {K : PySem.W.Frag} {mg : Str → Option Value} {base : Heap}
/-! ### need_demand -/
def F_need_demand : List PyData → PyData → Prop := fun ds r => ∃ c ls, ds = [encDem c ls] ∧ DemOk c ls ∧ r = encDem c ls
theorem some_at (i : Nat) (h : 0 < i) : ((i : Int) - 1) = ((i - 1 : Nat) : Int) := by omega
theorem cal_need_demand (T : Fx K mg) (D : Def K mg "need_demand" s_need_demand) (C_is_between : C_is_betweenT P w K mg base) (C_is_lookup : C_is_lookupT P w K mg base) : Cal P w K mg base 6 "need_demand" ["thing"] (spF K F_need_demand) := by
  have S := sc_need_demand
  refine mk_cal D S (fun ds r h => by obtain ⟨a, b, rfl, _⟩ := h; rfl) (fun _ _ _ _ _ _ us hl => match us, hl with | [_], _ => rfl) fun f cdv A outer s H E hr => ?_
  have hu64 := hu64_of hr
  refine ⟨_, (pss_cons (ps_if (PW.pt (pw_or (pt_not (pt_val (pe_callB (call_isiK' K) rfl T.isinstance (by decide +kernel) (pa_cons (pv 0) (pa_cons (pe_bltn (v := .ty "tuple") rfl T.tuple (by decide +kernel) rfl) pa_nil))))) (pw_or1 (pt_cmpR (op_neK K hu64) (pe_callB (call_lenK K) rfl T.len (by decide +kernel) (pa_cons (pv 0) pa_nil)) pe_int (nomark _))))) (pss_one ps_never) pss_nil)
        (pss_cons (ps_asg (pv 0) (pg_tup rfl (pgs_cons (pg_name (i := 1) S.nd rfl (by first | exact Or.inl rfl | exact Or.inr rfl)) (pgs_cons (pg_name (i := 2) S.nd rfl (by first | exact Or.inl rfl | exact Or.inr rfl)) pgs_nil))))
        (pss_cons (ps_if (pt_not (pt_val (pe_cal C_is_between hr (by decide) rfl (pa_cons (pv 1) (pa_cons pe_int (pa_cons (pe_gint rfl T.MOST_COLUMNS) pa_nil)))))) (pss_one ps_never) pss_nil)
        (pss_cons (ps_if (PW.pt (pw_or (pt_not (pt_val (pe_callB (call_isiK' K) rfl T.isinstance (by decide +kernel) (pa_cons (pv 2) (pa_cons (pe_bltn (v := .ty "tuple") rfl T.tuple (by decide +kernel) rfl) pa_nil))))) (pw_or1 (pt_not (pt_chain (op_le) (op_le) pe_int (pe_callB (call_lenK K) rfl T.len (by decide +kernel) (pa_cons (pv 2) pa_nil)) (pe_gint rfl T.MOST_LOOKUPS)))))) (pss_one ps_never) pss_nil)
        (pss_cons (ps_for PassesOwn.never rfl (pi_enumT rfl T.enumerate (pa_cons (pv 2) pa_nil)) (pg_tup rfl (pgs_cons (pg_name (i := 3) S.nd rfl (by first | exact Or.inl rfl | exact Or.inr rfl)) (pgs_cons (pg_name (i := 4) S.nd rfl (by first | exact Or.inl rfl | exact Or.inr rfl)) pgs_nil))) (pss_one (ps_if (PW.pt (pw_or (pt_not (pt_val (pe_cal C_is_lookup hr (by decide) rfl (pa_cons (pv 1) (pa_cons (pv 4) pa_nil))))) (pw_or1 (PW.pt (pw_and (pt_cmpR (op_gt) (pv 3) pe_int (nomark _)) (pw_and1 (pt_cmpR (op_geK K hu64) (pe_ix (ix_uK K) (pv 2) (pe_op op_sub (pv 3) pe_int) (fun _ _ => rfl)) (pv 4) (nomark _)))))))) (pss_one ps_never) pss_nil)))
        (pss_one (ps_ret (pv 0)))))))), fun ds r h => ?_⟩
  obtain ⟨c, ls, rfl, ⟨h1, h2, h3, h4, h5, h6⟩, rfl⟩ := h
  refine dr_seq (dn_skip ((dt_or (dt_not (dt_B (de_isi "tuple" "tuple" true (de_var rfl) rfl (by decide +kernel)))) fun _ => dt_test (de_op (de_cb (da_cons (de_var rfl) da_nil) (c_len rfl)) de_int (r_neD (sh_int _) (sh_int _)))).is ?_))
    (dr_seq (dn_asg (de_var rfl) (dg_tup2 (vs := [1, 2]) (by decide) (by decide)))
    (dr_seq (dn_skip ((dt_not (dt_B (de_call (da_cons (de_var rfl) (da_cons de_int (da_cons de_int da_nil))) ⟨c, 1, 8, rfl, rfl⟩))).is ?_))
    (dr_seq (dn_skip ((dt_or (dt_not (dt_B (de_isi "tuple" "tuple" true (de_var rfl) rfl (by decide +kernel)))) fun _ => dt_not (dt_test (de_chain de_int (de_cb (da_cons (de_var rfl) da_nil) (c_len rfl)) (r_I0 fun _ => .bl _) (fun _ => de_int) fun _ => r_I0 fun _ => .bl _))).is ?_))
    (dr_seq (dn_for (items := ls.zipIdx) (enc := encN) (vs := [3, 4]) (fun _ => [.d (encDem c ls), .d (.int c), .d (encLks ls), .no, .no]) _ (numD_lks ls ▸ di_enum (da_cons (de_var rfl) da_nil)) rfl (fun i a _ => dg_pair (by decide) (by decide)) (fun i a ha => ?_) rfl)
    (dr_ret (de_var rfl))))))
  · rfl
  · rw [decide_eq_true h1, decide_eq_true h2]
    rfl
  · show (!true || !(decide (1 ≤ ((ls.map encLk).length : Int)) && decide (((ls.map encLk).length : Int) ≤ 12))) = false
    rw [List.length_map, decide_eq_true (show (1 : Int) ≤ (ls.length : Int) by omega), decide_eq_true (show (ls.length : Int) ≤ 12 by omega)]
    rfl
  · obtain ⟨l, n⟩ := a
    rw [List.getElem?_zipIdx] at ha
    obtain ⟨l', hl, e⟩ := Option.map_eq_some_iff.mp ha
    cases e
    rw [Nat.zero_add]
    have hm := List.mem_of_getElem? hl
    refine (dn_forget 4 (dn_forget 3 (dn_skip ((dt_or (a := false) (dt_not (a := true) (dt_B (de_call (da_cons (de_var rfl) (da_cons (de_var rfl) da_nil)) ⟨c, _, rfl, h5 _ hm, rfl⟩))) fun _ =>
      dt_and (a := decide ((0 : Int) < (i : Int))) (b := false) (dt_test (de_op (de_var rfl) de_int (r_I0 fun _ => .bl _))) fun z => ?_).is ?_)))).is rfl
    · have hi : 0 < i := by
        have := of_decide_eq_true z
        omega
      obtain ⟨q, hq⟩ : ∃ q, ls[i - 1]? = some q := ⟨ls[i - 1]'(by have := (List.getElem?_eq_some_iff.mp hl).1; omega), List.getElem?_eq_getElem _⟩
      have hlt := h6 (i - 1) q _ hq (by rw [Nat.sub_add_cancel hi]; exact hl)
      refine dt_test ((de_op (de_op (de_var rfl) (de_op (de_var rfl) de_int (r_I0 fun _ => .int _)) (r_ix (j := i - 1) rfl (some_at i hi) (by rw [List.getElem?_map, hq]; rfl))) (de_var rfl) (r_geD (alike_lk _ _) (by intro z; cases z) (Nat.le_trans (dep_lk q) (by decide)))).is ?_)
      show PyData.bool (!ltLk q _) = .bool false
      rw [hlt]
      rfl
    · cases decide ((0 : Int) < (i : Int)) <;> rfl
abbrev C_need_demandT (P : Program) (w : World) (K : PySem.W.Frag) (mg : Str → Option Value) (base : Heap) := Cal P w K mg base 6 "need_demand" ["thing"] (spF K F_need_demand)
/-! ### served_in, served_by -/
def F_served_in : List PyData → PyData → Prop := fun ds r => ∃ c ls ix, ds = [encDem c ls, encSteps ix] ∧ DemOk c ls ∧ IxOk c ix ∧ r = .list ((servM ls ix).map .int)
theorem cal_served_in (T : Fx K mg) (D : Def K mg "served_in" s_served_in) (C_way_in : C_way_inT P w K mg base) : Cal P w K mg base 3 "served_in" ["demand", "index"] (spF K F_served_in) := by
  have S := sc_served_in
  refine mk_cal D S (fun ds r h => by obtain ⟨a, b, c, rfl, _⟩ := h; rfl) (fun _ _ _ _ _ _ us hl => match us, hl with | [_, _], _ => rfl) fun f cdv A outer s H E hr => ?_
  refine ⟨_, (pss_one (ps_ret (pe_lc (own := [("spot", 2), ("lookup", 3)]) (g := gTup K 2 (gCons (gName 2) (gCons (gName 3) gNil))) rfl S.nd (pi_enumT rfl T.enumerate (pa_cons (pe_ix (ix_uK K) (pv 0) pe_int (fun _ _ => rfl)) pa_nil)) (blkOk_by (own := [("spot", 2), ("lookup", 3)]) (N := N_served_in) (sc := defScope s_served_in) (by decide +kernel)) (fun _ _ _ _ _ => (pg_tup rfl (pgs_cons (pg_name (i := 2) S.nd rfl (by first | exact Or.inl rfl | exact Or.inr rfl)) (pgs_cons (pg_name (i := 3) S.nd rfl (by first | exact Or.inl rfl | exact Or.inr rfl)) pgs_nil)))) (fun _ _ _ _ _ => (pts_one (pt_cmpR (op_notN) (pe_cal C_way_in hr (by decide) rfl (pa_cons (pv 1) (pa_cons (pv 3) pa_nil))) pe_non (nomark _)))) (fun _ _ _ _ _ => (pv 2))))), fun ds r h => ?_⟩
  obtain ⟨c, ls, ix, rfl, ⟨h1, h2, h3, h4, h5, h6⟩, hx, rfl⟩ := h
  refine dr_ret ((de_lc (items := ls.zipIdx) (enc := encN) _ (fun p => (wayM ix p.1).isSome) (fun p => .int (p.2 : Int)) (numD_lks ls ▸ di_enum (da_cons (de_op (de_var rfl) de_int (r_ix (j := 1) rfl rfl rfl)) da_nil)) (by rw [List.length_zipIdx]; omega) (fun a _ => dg_pair (by decide) (by decide))
    (fun a m => dt_test ((de_op (de_call (da_cons (de_var rfl) (da_cons (de_var rfl) da_nil)) ⟨ix, a.1, rfl, hx.1.2.2, hx.1.2.1, ?_, ?_, rfl⟩) de_non (r_notN (wayV_scal _))).is (congrArg PyData.bool (wayV_some _)))) (fun a m z => de_var rfl) (fun _ => rfl)).is ?_)
  · unfold servM
    rw [List.map_map]
    rfl
  · have hm := List.mem_of_getElem? (List.mem_zipIdx_iff_getElem?.mp m)
    exact (h5 _ hm).1.2.2
  · have hm := List.mem_of_getElem? (List.mem_zipIdx_iff_getElem?.mp m)
    exact (h5 _ hm).2.1.2.2
abbrev C_served_inT (P : Program) (w : World) (K : PySem.W.Frag) (mg : Str → Option Value) (base : Heap) := Cal P w K mg base 3 "served_in" ["demand", "index"] (spF K F_served_in)
def F_served_by : List PyData → PyData → Prop := fun ds r => ∃ c ls ix, ds = [encDem c ls, encSteps ix] ∧ DemOk c ls ∧ IxOk c ix ∧ r = .tuple ((servM ls ix).map .int)
theorem cal_served_by (T : Fx K mg) (D : Def K mg "served_by" s_served_by) (C_need_demand : C_need_demandT P w K mg base) (C_need_index_of : C_need_index_ofT P w K mg base) (C_served_in : C_served_inT P w K mg base) : Cal P w K mg base 7 "served_by" ["demand", "index"] (spF K F_served_by) := by
  have S := sc_served_by
  refine mk_cal D S (fun ds r h => by obtain ⟨a, b, c, rfl, _⟩ := h; rfl) (fun _ _ _ _ _ _ us hl => match us, hl with | [_, _], _ => rfl) fun f cdv A outer s H E hr => ?_
  refine ⟨_, (pss_cons (ps_expr (pe_cal C_need_demand hr (by decide) rfl (pa_cons (pv 0) pa_nil)))
        (pss_cons (ps_expr (pe_cal C_need_index_of hr (by decide) rfl (pa_cons (pe_ix (ix_uK K) (pv 0) pe_int (fun _ _ => rfl)) (pa_cons (pv 1) pa_nil))))
        (pss_one (ps_ret (pe_callTy (call_tupK K) rfl T.tuple (by decide +kernel) (pa_cons (pe_cal C_served_in hr (by decide) rfl (pa_cons (pv 0) (pa_cons (pv 1) pa_nil))) pa_nil)))))), fun ds r h => ?_⟩
  obtain ⟨c, ls, ix, rfl, h1, hx, rfl⟩ := h
  exact dr_seq (dn_drop (de_call (da_cons (de_var rfl) da_nil) ⟨c, ls, rfl, h1, rfl⟩)) (dr_seq (dn_drop (de_call (da_cons (de_op (de_var rfl) de_int (r_ix (j := 0) rfl rfl rfl)) (da_cons (de_var rfl) da_nil)) ⟨⟨c, ix, rfl, hx⟩, rfl⟩))
    (dr_ret (de_cb (da_cons (de_call (da_cons (de_var rfl) (da_cons (de_var rfl) da_nil)) ⟨c, ls, ix, rfl, h1, hx, rfl⟩) da_nil) c_tuple)))
abbrev C_served_byT (P : Program) (w : World) (K : PySem.W.Frag) (mg : Str → Option Value) (base : Heap) := Cal P w K mg base 7 "served_by" ["demand", "index"] (spF K F_served_by)
end
end K3
set_option Elab.async false
set_option linter.all false
set_option maxRecDepth 100000
set_option maxHeartbeats 4000000
/-! The law's look at one index: right for every demand and index. -/
namespace K3
open PySem PySem.Spec PyProof.Rows L2
section
variable {P : Program} {w : World} {K : PySem.W.Frag} {mg : Str → Option Value} {base : Heap}
def F_right : List PyData → PyData → Prop := fun ds r => ∃ (c : Nat) (ls : List Lk) (ix : List Stp), ds = [encDem (c : Int) ls, encSteps ix] ∧ DemOk (c : Int) ls ∧ IxOk (c : Int) ix ∧ r = .bool true
theorem eqv_wayD (o : Option Bool) : PyData.eqv (wayD o) (wayD o) = true := by
  cases o with
  | none => rfl
  | some b => cases b <;> decide +kernel
theorem eqv_way_ne {a b : Option Bool} (h : a ≠ b) : PyData.eqv (wayD a) (wayD b) = false := by
  cases a with
  | none => cases b with
    | none => exact absurd rfl h
    | some y => cases y <;> decide +kernel
  | some x => cases b with
    | none => cases x <;> decide +kernel
    | some y =>
      cases x <;> cases y
      · exact absurd rfl h
      · decide +kernel
      · decide +kernel
      · exact absurd rfl h
theorem sh_wayD (o : Option Bool) : SeqAt.shaped (wayD o) = true := by
  cases o with
  | none => decide +kernel
  | some b => cases b <;> decide +kernel
theorem sh_bool (b : Bool) : SeqAt.shaped (.bool b) = true := by
  cases b <;> decide +kernel
theorem eqv_bool (b : Bool) : PyData.eqv (.bool b) (.bool b) = true := by
  cases b <;> rfl
theorem begM_len (ix : List Stp) : (begM ix).length = ix.length + 1 := by
  unfold begM
  rw [List.length_map, List.length_range]
theorem eqv_intsT (a b : List Int) : PyData.eqv (.tuple (a.map .int)) (.tuple (b.map .int)) = decide (a = b) := eqv_lot a b
theorem sh_intsT (ns : List Int) : SeqAt.shaped (.tuple (ns.map .int)) = true := sh_lot ns
theorem cal__law_index_right (T : Fx K mg) (D : Def K mg "_law_index_right" s__law_index_right) (C_beginnings : C_beginningsT P w K mg base) (C__law_begun : C__law_begunT P w K mg base) (C_need_index : C_need_indexT P w K mg base) (C__law_turned : C__law_turnedT P w K mg base) (C__law_way : C__law_wayT P w K mg base)
    (C_does_serve : C_does_serveT P w K mg base) (C_way_of : C_way_ofT P w K mg base) (C_served_by : C_served_byT P w K mg base) : Cal P w K mg base 10 "_law_index_right" ["_law_demand_here", "_law_index_here"] (spF K F_right) := by
  have S := sc__law_index_right
  refine mk_cal D S (fun ds r h => by obtain ⟨a, b, c, rfl, _⟩ := h; rfl) (fun _ _ _ _ _ _ us hl => match us, hl with | [_, _], _ => rfl) fun f cdv A outer s H E hr => ?_
  have hu64 := hu64_of hr
  have hu65 := hu65_of hr
  refine ⟨_, (pss_cons (ps_asg (pv 0) (pg_tup rfl (pgs_cons (pg_name (i := 2) S.nd rfl (by first | exact Or.inl rfl | exact Or.inr rfl)) (pgs_cons (pg_name (i := 3) S.nd rfl (by first | exact Or.inl rfl | exact Or.inr rfl)) pgs_nil))))
        (pss_cons (ps_if (PW.pt (pw_or (pt_cmpR (op_neK K hu64) (pe_cal C_need_index hr (by decide) rfl (pa_cons (pv 2) (pa_cons (pv 1) pa_nil))) (pv 1) (nomark _)) (pw_or1 (pt_cmpR (op_neK K hu64) (pe_cal C_beginnings hr (by decide) rfl (pa_cons (pv 2) (pa_cons (pv 1) pa_nil))) (pe_callTy (call_tupK K) rfl T.tuple (by decide +kernel) (pa_cons (pe_cal C__law_begun hr (by decide) rfl (pa_cons (pv 1) pa_nil)) pa_nil)) (nomark _))))) (pss_one (ps_ret pe_bl)) pss_nil)
        (pss_cons (ps_par (i := 4) (j := 5) rfl S.nd rfl rfl (by decide) rfl rfl (pa_cons (pe_lst pa_nil) (pa_cons (pe_cal C__law_turned hr (by decide) rfl (pa_cons (pv 1) pa_nil)) pa_nil)) rfl)
        (pss_cons (ps_for PassesOwn.never rfl (pi_enumT rfl T.enumerate (pa_cons (pv 3) pa_nil)) (pg_tup rfl (pgs_cons (pg_name (i := 6) S.nd rfl (by first | exact Or.inl rfl | exact Or.inr rfl)) (pgs_cons (pg_name (i := 7) S.nd rfl (by first | exact Or.inl rfl | exact Or.inr rfl)) pgs_nil))) (pss_cons (ps_set (i := 8) S.nd rfl (by first | exact Or.inl rfl | exact Or.inr rfl) (pe_cal C__law_way hr (by decide) rfl (pa_cons (pv 1) (pa_cons (pv 7) pa_nil))))
          (pss_cons (ps_if (PW.pt (pw_or (pt_cmpR (op_neK K hu64) (pe_cal C_way_of hr (by decide) rfl (pa_cons (pv 2) (pa_cons (pv 1) (pa_cons (pv 7) pa_nil)))) (pv 8) (nomark _)) (pw_or1 (pt_cmpR (op_neK K hu64) (pe_cal C_does_serve hr (by decide) rfl (pa_cons (pv 2) (pa_cons (pv 1) (pa_cons (pv 7) pa_nil)))) (pe_cmpR (op_notN) (pv 8) pe_non (nomark _)) (nomark _))))) (pss_one (ps_ret pe_bl)) pss_nil)
          (pss_cons (ps_if (PW.pt (pw_or (pt_cmpR (op_neK K hu64) (pe_cal C_way_of hr (by decide) rfl (pa_cons (pv 2) (pa_cons (pv 1) (pa_cons (pv 7) pa_nil)))) (pv 8) (nomark _)) (pw_or1 (pt_cmpR (op_neK K hu64) (pe_cal C_does_serve hr (by decide) rfl (pa_cons (pv 2) (pa_cons (pv 5) (pa_cons (pv 7) pa_nil)))) (pe_cmpR (op_notN) (pv 8) pe_non (nomark _)) (nomark _))))) (pss_one (ps_ret pe_bl)) pss_nil)
          (pss_cons (ps_if (PW.pt (pw_and (pt_cmpR (op_notN) (pv 8) pe_non (nomark _)) (pw_and (pt_cmpR (op_neK K hu64) (pe_ix (ix_uK K) (pv 7) pe_int (fun _ _ => rfl)) (pe_tupF pa_nil) (nomark _)) (pw_and1 (pt_cmpR (op_eqK K hu64) (pe_cal C_way_of hr (by decide) rfl (pa_cons (pv 2) (pa_cons (pv 5) (pa_cons (pv 7) pa_nil)))) (pv 8) (nomark _)))))) (pss_one (ps_ret pe_bl)) pss_nil)
          (pss_one (ps_set (i := 4) S.nd rfl (by first | exact Or.inl rfl | exact Or.inr rfl) (pe_op (op_plusK K) (pv 4) (pe_op op_rep (pe_lst (pa_cons (pv 6) pa_nil)) (pe_callTy call_int1 rfl T.int (by decide +kernel) (pa_cons (pe_cmpR (op_notN) (pv 8) pe_non (nomark _)) pa_nil)))))))))))
        (pss_cons (ps_if (PW.pt (pw_or (pt_cmpR (op_neK K hu64) (pe_cal C_served_by hr (by decide) rfl (pa_cons (pv 0) (pa_cons (pv 1) pa_nil))) (pe_callTy (call_tupK K) rfl T.tuple (by decide +kernel) (pa_cons (pv 4) pa_nil)) (nomark _)) (pw_or1 (pt_cmpR (op_neK K hu64) (pe_cal C_served_by hr (by decide) rfl (pa_cons (pv 0) (pa_cons (pv 1) pa_nil))) (pe_callTy (call_tupK K) rfl T.tuple (by decide +kernel) (pa_cons (pv 4) pa_nil)) (nomark _))))) (pss_one (ps_ret pe_bl)) pss_nil)
        (pss_cons (ps_set (i := 9) S.nd rfl (by first | exact Or.inl rfl | exact Or.inr rfl) (pe_lc (own := [("_law_step", 12)]) (g := gName 12) rfl S.nd (pi_seqK K (pv 1)) (blkOk_by (own := [("_law_step", 12)]) (N := N__law_index_right) (sc := defScope s__law_index_right) (by decide +kernel)) (fun _ _ _ _ _ => (pg_name (i := 12) S.nd rfl (by first | exact Or.inl rfl | exact Or.inr rfl))) (fun _ _ _ _ _ => pts_nil) (fun _ _ _ _ _ => (pe_ix (ix_uK K) (pv 12) pe_int (fun _ _ => rfl)))))
        (pss_cons (ps_setLc (i := 10) (own := [("_law_column", 13)]) (g := gName 13) rfl S.nd rfl rfl (sw_true rfl rfl rfl (by decide +kernel)) (pi_range1 rfl T.range (pa_cons (pv 2) pa_nil)) (blkOk_by (own := [("_law_column", 13)]) (N := N__law_index_right) (sc := defScope s__law_index_right) (by decide +kernel)) (fun _ _ _ _ _ => (pg_name (i := 13) S.nd rfl (by first | exact Or.inl rfl | exact Or.inr rfl))) (fun _ _ _ _ _ => (pts_one (pt_cmpR (op_notInK K hu65) (pv 13) (pv 9) rfl))) (fun _ _ _ _ _ => (pv 13)))
        (pss_cons (ps_set (i := 11) S.nd rfl (by first | exact Or.inl rfl | exact Or.inr rfl) (pe_op (op_plusK K) (pv 1) (pe_callTy (call_tupK K) rfl T.tuple (by decide +kernel) (pa_cons (pe_lc (own := [("_law_column", 13)]) (g := gName 13) rfl S.nd (pi_seqK K (pv 10)) (blkOk_by (own := [("_law_column", 13)]) (N := N__law_index_right) (sc := defScope s__law_index_right) (by decide +kernel)) (fun _ _ _ _ _ => (pg_name (i := 13) S.nd rfl (by first | exact Or.inl rfl | exact Or.inr rfl))) (fun _ _ _ _ _ => pts_nil) (fun _ _ _ _ _ => (pe_tupF (pa_cons (pv 13) (pa_cons pe_str pa_nil))))) pa_nil))))
        (pss_one (ps_ret (pe_cmpR (op_eqK K hu64) (pe_lc (own := [("_law_spot", 6)]) (g := gName 6) rfl S.nd (pi_seqK K (pv 4)) (blkOk_by (own := [("_law_spot", 6)]) (N := N__law_index_right) (sc := defScope s__law_index_right) (by decide +kernel)) (fun _ _ _ _ _ => (pg_name (i := 6) S.nd rfl (by first | exact Or.inl rfl | exact Or.inr rfl))) (fun _ _ _ _ _ => (pts_one (pt_cmpR (op_notInK K hu65) (pv 6) (pe_cal C_served_by hr (by decide) rfl (pa_cons (pv 0) (pa_cons (pv 11) pa_nil))) rfl))) (fun _ _ _ _ _ => (pv 6))) (pe_lst pa_nil) (nomark _)))))))))))), fun ds r h => ?_⟩
  obtain ⟨c, ls, ix, rfl, hd, hx, rfl⟩ := h
  have hd' := hd
  obtain ⟨h1, h2, h3, h4, h5, h6⟩ := hd'
  have hb := turn_ok hx
  have hl8 := hx.1.2.2
  have hdue : dueM ls ix ls.zipIdx.length = servM ls ix := by rw [List.length_zipIdx, due_all]
  refine dr_seq (dn_asg (de_var rfl) (dg_tup2 (vs := [2, 3]) (by decide) (by decide))) (dr_seq (dn_skip ((dt_or (dt_test (de_op (de_call (da_cons (de_var rfl) (da_cons (de_var rfl) da_nil)) ⟨c, ix, rfl, h1, h2, hx, rfl⟩) (de_var rfl) (r_neD (sh_steps ix) (sh_steps ix)))) fun _ =>
      dt_test (de_op (de_call (da_cons (de_var rfl) (da_cons (de_var rfl) da_nil)) ⟨c, ix, rfl, h1, h2, hx, rfl⟩) (de_cb (da_cons (de_call (da_cons (de_var rfl) da_nil) ⟨ix, rfl, hl8, rfl⟩) da_nil) c_tuple) (r_neD (sh_lotsT _) (sh_lotsT _)))).is ?_))
    (dr_seq (dn_par (da_cons (de_lst da_nil (by decide)) (da_cons (de_call (da_cons (de_var rfl) da_nil) ⟨ix, rfl, hl8, rfl⟩) da_nil)))
    (dr_seq (dn_for (items := ls.zipIdx) (enc := encN) (vs := [6, 7]) (fun i => [.d (encDem c ls), .d (encSteps ix), .d (.int c), .d (encLks ls), .d (.list ((dueM ls ix i).map .int)), .d (encSteps (turnM ix)), .no, .no, .no, .no, .no, .no, .no, .no]) _ (numD_lks ls ▸ di_enum (da_cons (de_var rfl) da_nil)) rfl (fun i a _ => dg_pair (by decide) (by decide)) (fun i a ha => ?_) rfl)
    (dr_seq (dn_skip ((dt_or (dt_test (de_op (de_call (da_cons (de_var rfl) (da_cons (de_var rfl) da_nil)) ⟨c, ls, ix, rfl, hd, hx, rfl⟩) (de_cb (da_cons (de_var rfl) da_nil) c_tuple) (r_neD (sh_intsT _) (sh_intsT _)))) fun _ => dt_test (de_op (de_call (da_cons (de_var rfl) (da_cons (de_var rfl) da_nil)) ⟨c, ls, ix, rfl, hd, hx, rfl⟩) (de_cb (da_cons (de_var rfl) da_nil) c_tuple) (r_neD (sh_intsT _) (sh_intsT _)))).is ?_))
    (dr_seq (dn_set (d := .list ((colsM ix).map .int)) ((de_map (items := ix) (enc := encStep) _ (fun s => .int s.1) (di_seq (de_var rfl) rfl) (Nat.le_trans hl8 (by decide)) (fun a _ => dg_name (by decide)) (fun a m => de_op (de_var rfl) de_int (r_ix (j := 0) rfl rfl rfl)) (fun _ => rfl)).is (by unfold colsM; rw [List.map_map]; rfl)))
    (dr_seq (dn_set (d := .list ((lackM c ix).map .int)) (de_lc (items := rgD c) (enc := .int) _ (fun x => !decide (x ∈ colsM ix)) (fun x => .int x) (di_range (n := c) (da_cons (de_var rfl) da_nil) (by omega)) (by rw [rgD_len]; omega) (fun a _ => dg_name (by decide))
      (fun a m => dt_test ((de_op (de_var rfl) (de_var rfl) (r_inU (neg := true) rfl (sh_int a) (sh_ints _))).is (congrArg (fun b => PyData.bool (!b)) (any_int (colsM ix) a)))) (fun a m z => de_var rfl) (fun _ => rfl)))
    (dr_seq (dn_set (d := encSteps (longM c ix)) ((de_op (de_var rfl) (de_cb (da_cons (de_map (items := lackM c ix) (enc := .int) _ (fun x => encStep (x, true)) (di_seq (de_var rfl) rfl) ?_ (fun a _ => dg_name (by decide)) (fun a m => de_tup (da_cons (de_var rfl) (da_cons de_str da_nil)) (show 2 ≤ 1000 by decide)) (fun _ => rfl)) da_nil) c_tuple) (r_plusT ?_)).is ?_))
    (dr_ret ((de_op (de_lc (items := servM ls ix) (enc := .int) _ (fun x => !decide (x ∈ servM ls (longM c ix))) (fun x => .int x) (di_seq (de_var rfl) ?_) ?_ (fun a _ => dg_name (by decide))
      (fun a m => dt_test ((de_op (de_var rfl) (de_call (da_cons (de_var rfl) (da_cons (de_var rfl) da_nil)) ⟨c, ls, longM c ix, rfl, hd, long_ok (by omega) hx, rfl⟩) (r_inU (neg := true) rfl (sh_int a) (sh_intsT _))).is (congrArg (fun b => PyData.bool (!b)) (any_int (servM ls (longM c ix)) a)))) (fun a m z => de_var rfl) (fun _ => rfl)) (de_lst da_nil (by decide)) (r_eqD (sh_ints _) sh_lnil)).is ?_)))))))))
  · rw [eqv_steps, decide_eq_true rfl, eqv_lots, decide_eq_true rfl]
    rfl
  · obtain ⟨l, n⟩ := a
    rw [List.getElem?_zipIdx] at ha
    obtain ⟨l', hl, e⟩ := Option.map_eq_some_iff.mp ha
    cases e
    rw [Nat.zero_add]
    have hk := h5 _ (List.mem_of_getElem? hl)
    have hW : ∀ {ρ : Rho}, ρ[2]? = some (.d (.int (c : Int))) → ρ[1]? = some (.d (encSteps ix)) → ρ[7]? = some (.d (encLk l)) → DE K _ ρ _ := fun e2 e1 e7 => de_call (E := E0) (F := F_way_of) (da_cons (de_var e2) (da_cons (de_var e1) (da_cons (de_var e7) da_nil))) ⟨c, ix, l, rfl, h1, h2, hx, hk, rfl⟩
    refine (dn_forget 8 (dn_forget 7 (dn_forget 6 (dn_seq (dn_set (de_call (da_cons (de_var rfl) (da_cons (de_var rfl) da_nil)) ⟨ix, l, rfl, hl8, hx.1.2.1, hk.1.2.2, hk.2.1.2.2, rfl⟩))
      (dn_seq (dn_skip ((dt_or (dt_test (de_op (hW rfl rfl rfl) (de_var rfl) (r_neD (sh_wayD _) (sh_wayD _)))) fun _ => dt_test (de_op (de_call (da_cons (de_var rfl) (da_cons (de_var rfl) (da_cons (de_var rfl) da_nil))) ⟨c, ix, l, rfl, h1, h2, hx, hk, rfl⟩) ((de_op (de_var rfl) de_non (r_notN (wayV_scal _))).is (congrArg PyData.bool (wayV_some _))) (r_neD (sh_bool _) (sh_bool _)))).is ?_))
      (dn_seq (dn_skip ((dt_or (dt_test (de_op (hW rfl rfl rfl) (de_var rfl) (r_neD (sh_wayD _) (sh_wayD _)))) fun _ => dt_test (de_op ((de_call (da_cons (de_var rfl) (da_cons (de_var rfl) (da_cons (de_var rfl) da_nil))) ⟨c, turnM ix, l, rfl, h1, h2, hb, hk, rfl⟩).is (congrArg PyData.bool (turn_some ix l))) ((de_op (de_var rfl) de_non (r_notN (wayV_scal _))).is (congrArg PyData.bool (wayV_some _))) (r_neD (sh_bool _) (sh_bool _)))).is ?_))
      (dn_seq (dn_skip ((dt_and (dt_test ((de_op (de_var rfl) de_non (r_notN (wayV_scal _))).is (congrArg PyData.bool (wayV_some _)))) fun z1 => dt_and (dt_test (de_op (de_op (de_var rfl) de_int (r_ix (j := 1) rfl rfl rfl)) (de_tup da_nil (by decide)) (r_neD (sh_steps l.2) sh_nil))) fun z2 =>
        dt_test ((de_op (de_call (da_cons (de_var rfl) (da_cons (de_var rfl) (da_cons (de_var rfl) da_nil))) ⟨c, turnM ix, l, rfl, h1, h2, hb, hk, rfl⟩) (de_var rfl) (r_eqD (sh_wayD _) (sh_wayD _))).is (congrArg PyData.bool (eqv_way_ne (turn_other hx.1.2.1 (fun z => ?_) z1))))).is ?_))
      (dn_set (d := .list ((dueM ls ix (i + 1)).map .int)) ((de_op (de_var rfl) (de_rep (k := if (wayM ix l).isSome = true then 1 else 0) (de_var rfl) ((de_cb (da_cons ((de_op (de_var rfl) de_non (r_notN (wayV_scal _))).is (congrArg PyData.bool (wayV_some _))) da_nil) c_intB).is ?_) ?_) (r_plusL ?_)).is ?_)))))))))
    · rw [eqv_wayD, eqv_bool]
      rfl
    · rw [eqv_wayD, eqv_bool]
      rfl
    · rw [z] at z2
      exact absurd z2 (by decide)
    · cases (wayM ix l).isSome <;> cases (PyData.eqv (encSteps l.2) (.tuple [])) <;> rfl
    · cases (wayM ix l).isSome <;> rfl
    · cases (wayM ix l).isSome <;> decide
    · rw [List.length_map, List.length_replicate]
      have := due_len ls ix i
      split <;> omega
    · rw [due_next hl, List.map_append, List.map_replicate]
  · rw [hdue, eqv_intsT, decide_eq_true rfl]
    rfl
  · unfold lackM
    refine Nat.le_trans (List.length_filter_le _ _) ?_
    rw [rgD_len]
    omega
  · rw [List.length_map, List.length_map]
    have : (lackM c ix).length ≤ c := by
      unfold lackM
      refine Nat.le_trans (List.length_filter_le _ _) ?_
      rw [rgD_len]
      exact Nat.le_refl _
    omega
  · unfold longM encSteps
    rw [List.map_append, List.map_map]
    rfl
  · exact congrArg (fun z : List Int => some (z.map PyData.int)) hdue
  · have := serv_len ls ix
    omega
  · have hall : ((servM ls ix).all fun x => decide (x ∈ servM ls (longM c ix))) = true := List.all_eq_true.mpr fun x m => decide_eq_true (serv_app m)
    rw [list_nil_eqv, none_left, hall]
abbrev C__law_index_rightT (P : Program) (w : World) (K : PySem.W.Frag) (mg : Str → Option Value) (base : Heap) := Cal P w K mg base 10 "_law_index_right" ["_law_demand_here", "_law_index_here"] (spF K F_right)
end
end K3
set_option Elab.async false
set_option linter.all false
set_option maxRecDepth 100000
set_option maxHeartbeats 4000000
/-! The draws. -/
namespace K3
open PySem PySem.Spec PyProof.Rows L2
/-! ### a number mixed -/
def mixM (x k : Int) : Int := (x % 2147483647 * (48271 + 2 * k * k) + 69621 * k + 11) % 2147483647 * 69621 % 2147483629
theorem mixM_lt (x k : Int) : 0 ≤ mixM x k ∧ mixM x k < 2147483648 := by
  unfold mixM
  have h1 := Int.emod_nonneg ((x % 2147483647 * (48271 + 2 * k * k) + 69621 * k + 11) % 2147483647 * 69621) (show (2147483629 : Int) ≠ 0 by decide)
  have h2 := Int.emod_lt_of_pos ((x % 2147483647 * (48271 + 2 * k * k) + 69621 * k + 11) % 2147483647 * 69621) (show (0 : Int) < 2147483629 by decide)
  exact ⟨h1, Int.lt_trans h2 (by decide)⟩
def F_mixed : List PyData → PyData → Prop := fun ds r => ∃ x k : Int, ds = [.int x, .int k] ∧ 0 ≤ k ∧ k < 2 ^ 40 ∧ r = .int (mixM x k)
section
variable {P : Program} {w : World} {K : PySem.W.Frag} {mg : Str → Option Value} {base : Heap}
theorem cal__law_mixed (T : Fx K mg) (D : Def K mg "_law_mixed" s__law_mixed) : Cal P w K mg base 1 "_law_mixed" ["_law_cell", "_law_k"] (spF K F_mixed) := by
  have S := sc__law_mixed
  refine mk_cal D S (fun ds r h => by obtain ⟨a, b, rfl, _⟩ := h; rfl) (fun _ _ _ _ _ _ us hl => match us, hl with | [_, _], _ => rfl) fun f cdv A outer s H E hr => ?_
  refine ⟨_, (pss_cons (ps_set (i := 0) S.nd rfl (by first | exact Or.inl rfl | exact Or.inr rfl) (pe_op op_mod (pe_callTy call_int1 rfl T.int (by decide +kernel) (pa_cons (pv 0) pa_nil)) pe_int))
        (pss_one (ps_ret (pe_op op_mod (pe_op op_mul (pe_op op_mod (pe_op (op_plusK K) (pe_op (op_plusK K) (pe_op op_mul (pv 0) (pe_op (op_plusK K) pe_int (pe_op op_mul (pe_op op_mul pe_int (pv 1)) (pv 1)))) (pe_op op_mul pe_int (pv 1))) pe_int) pe_int) pe_int) pe_int)))), fun ds r h => ?_⟩
  obtain ⟨x, k, rfl, h1, h2, rfl⟩ := h
  have hx1 := Int.emod_nonneg x (show (2147483647 : Int) ≠ 0 by decide)
  have hx2 := Int.emod_lt_of_pos x (show (0 : Int) < 2147483647 by decide)
  have c1 : CMul (x % 2147483647) (48271 + 2 * k * k) := .inl ⟨by omega, by omega⟩
  have c2 : CMul 2 k := .inl ⟨by decide, by decide⟩
  have c3 : CMul (2 * k) k := .inr ⟨by omega, by omega⟩
  have c4 : CMul 69621 k := .inl ⟨by decide, by decide⟩
  have c5 : CMul ((x % 2147483647 * (48271 + 2 * k * k) + 69621 * k + 11) % 2147483647) 69621 := .inr ⟨by decide, by decide⟩
  exact dr_seq (dn_set (de_op (de_cb (da_cons (de_var rfl) da_nil) c_int) de_int (r_I (show (0 : Int) < 2147483647 by decide) fun _ => .int _)))
    (dr_ret (de_op (de_op (de_op (de_op (de_op (de_op (de_var rfl) (de_op de_int (de_op (de_op de_int (de_var rfl) (r_I c2 fun _ => .int _)) (de_var rfl) (r_I c3 fun _ => .int _)) r_plusI) (r_I c1 fun _ => .int _)) (de_op de_int (de_var rfl) (r_I c4 fun _ => .int _)) r_plusI) de_int r_plusI) de_int (r_I (show (0 : Int) < 2147483647 by decide) fun _ => .int _)) de_int (r_I c5 fun _ => .int _)) de_int (r_I (show (0 : Int) < 2147483629 by decide) fun _ => .int _)))
abbrev C__law_mixedT (P : Program) (w : World) (K : PySem.W.Frag) (mg : Str → Option Value) (base : Heap) := Cal P w K mg base 1 "_law_mixed" ["_law_cell", "_law_k"] (spF K F_mixed)
/-! ### a draw -/
def preDraw (m : Nat) : List PyData → Prop := fun ds => ds = [.int (m : Int)]
def isDraw : List PyData → Prop := fun ds => ∃ m : Nat, ds = [.int (m : Int)] ∧ 1 ≤ m ∧ m ≤ 1000
def atDraw : List PyData → PyData → Prop := fun ds r => ∃ m v : Nat, ds = [.int (m : Int)] ∧ v < m ∧ r = .int (v : Int)
theorem val_cells (c l : Addr) (n : Int) : valV (kvS c l n) (.inr "cells") = some (.ref c) := by rfl
theorem val_lefts (c l : Addr) (n : Int) : valV (kvS c l n) (.inr "lefts") = some (.ref l) := by rfl
theorem val_at (c l : Addr) (n : Int) : valV (kvS c l n) (.inr "at") = some (.int n) := by rfl
theorem put_at (c l : Addr) (n m : Int) : putK (kvS c l n) (.inr "at") (.int m) = kvS c l m := by rfl
theorem dget_of {H : Hp} {a : Addr} {kvs : List (Key × V)} {k : Str} {v : V} (h : H a = some (.dK kvs)) (e : valV kvs (.inr k) = some v) : DGet H a (.str k) (some v) := by
  rw [← e]
  exact DGet.k (k := .inr k) h
theorem ixN_at {n j : Nat} (hj : j < n) : ixN n (j : Int) = some j := by
  unfold ixN
  rw [if_pos (by omega), if_pos (by omega)]
  simp
theorem mod_nat (x : Int) {m : Nat} (h : 1 ≤ m) : ∃ v : Nat, x % (m : Int) = (v : Int) ∧ v < m := by
  have h1 := Int.emod_nonneg x (show (m : Int) ≠ 0 by omega)
  have h2 := Int.emod_lt_of_pos x (show (0 : Int) < (m : Int) by omega)
  exact ⟨(x % (m : Int)).toNat, by omega, by omega⟩
theorem cal__law_draw (T : Fx K mg) (D : Def K mg "_law_draw" s__law_draw) (C__law_mixed : C__law_mixedT P w K mg base) : Cal P w K mg base 2 "_law_draw" ["_law_state", "_law_many"] (spS K isDraw 1 atDraw) := by
  have S := sc__law_draw
  refine mk_calR D S (fun vs H Q E h => by obtain ⟨a, c, l, n, us, ds, rfl, h1, _, ⟨m, rfl, _⟩, _⟩ := h; rw [List.length_cons, h1.len]; rfl) (fun _ _ _ _ _ _ us hl => match us, hl with | [_, _], _ => rfl) fun f cdv A outer s H E hr => ?_
  have hu64 := hu64_of hr
  have hu : (A.deeper (envOfC "_law_draw" (defScope s__law_draw) s.heap.objs.size f cdv)).units + 1 < cLine := by omega
  refine ⟨_, (pss_cons (ps_set (i := 2) S.nd rfl (by first | exact Or.inl rfl | exact Or.inr rfl) (pe_dget hu (pv 0) pe_str (fun _ _ => rfl)))
        (pss_cons (ps_dput hu (pv 0) pe_str (pe_op (op_plusK K) (pv 2) pe_int) rfl)
        (pss_cons (ps_set (i := 3) S.nd rfl (by first | exact Or.inl rfl | exact Or.inr rfl) (pe_op op_mod (pe_callTy call_int1 rfl T.int (by decide +kernel) (pa_cons (pv 2) pa_nil)) (pe_callB (call_lenK K) rfl T.len (by decide +kernel) (pa_cons (pe_dget hu (pv 0) pe_str (fun _ _ => rfl)) pa_nil))))
        (pss_cons (ps_set (i := 4) S.nd rfl (by first | exact Or.inl rfl | exact Or.inr rfl) (pe_ix (ix_uK K) (pe_dget hu (pv 0) pe_str (fun _ _ => rfl)) (pv 3) (fun _ _ => rfl)))
        (pss_cons (ps_if (pt_cmpR (op_gt) (pv 4) pe_int (nomark _)) (pss_cons (ps_asg (pe_op op_fdiv (pv 4) (pv 1)) (pg_sub (pe_dget hu (pv 0) pe_str (fun _ _ => rfl)) (pv 3) set_list))
          (pss_one (ps_ret (pe_op op_mod (pe_callTy call_int1 rfl T.int (by decide +kernel) (pa_cons (pv 4) pa_nil)) (pv 1))))) pss_nil)
        (pss_cons (ps_set (i := 5) S.nd rfl (by first | exact Or.inl rfl | exact Or.inr rfl) (pe_cal C__law_mixed hr (by decide) rfl (pa_cons (pe_cal C__law_mixed hr (by decide) rfl (pa_cons (pe_ix (ix_uK K) (pe_dget hu (pv 0) pe_str (fun _ _ => rfl)) (pv 3) (fun _ _ => rfl)) (pa_cons (pv 2) pa_nil))) (pa_cons (pe_op (op_plusK K) pe_int (pv 2)) pa_nil))))
        (pss_one (ps_ret (pe_op op_mod (pe_op op_fdiv (pe_callTy call_int1 rfl T.int (by decide +kernel) (pa_cons (pe_op (op_plusK K) (pe_op op_mul (pv 5) pe_int) (pe_cal C__law_mixed hr (by decide) rfl (pa_cons (pv 5) (pa_cons (pe_op (op_plusK K) pe_int (pv 2)) pa_nil)))) pa_nil)) pe_int) (pv 1)))))))))), fun D vs H E h => ?_⟩
  obtain ⟨a, c, l, n, us, ds, rfl, hd, ⟨ha, hcl, cs, ls, hc, hl, hz1, hz2, hz3⟩, ⟨m, rfl, hm1, hm2⟩, hn, q⟩ := h
  cases hd with
  | cons d1 d2 =>
  cases d2
  cases d1
  have hac : c ≠ a := by
    rintro rfl
    rw [ha] at hc
    cases hc
  have hal : l ≠ a := by
    rintro rfl
    rw [ha] at hl
    cases hl
  obtain ⟨p, hp, hpl⟩ := mod_nat (n : Int) hz1
  -- the state behind the count
  refine ⟨_, rfl, a, _, rfl, dget_of ha (val_at _ _ _), ?_⟩
  refine ⟨_, rfl, .inl ⟨_, _, rfl, rfl, _, rfl, a, upd H a (.dK (kvS c l ((n + 1 : Nat) : Int))), rfl, ?_, ?_⟩⟩
  · exact .inl ⟨_, .inr "at", ha, rfl, Nat.lt_of_lt_of_le (show 4 < 5 by decide) (sz_line (by decide)), rfl⟩
  have ha1 : upd H a (.dK (kvS c l ((n + 1 : Nat) : Int))) a = some (.dK (kvS c l ((n + 1 : Nat) : Int))) := upd_same
  have hc1 : upd H a (.dK (kvS c l ((n + 1 : Nat) : Int))) c = some (.lst (cs.map V.int)) := by rw [upd_ne hac]; exact hc
  have hl1 : upd H a (.dK (kvS c l ((n + 1 : Nat) : Int))) l = some (.lst (ls.map V.int)) := by rw [upd_ne hal]; exact hl
  have ev1 : EvS a l H (upd H a (.dK (kvS c l ((n + 1 : Nat) : Int)))) := fun b o x y z => by rw [upd_ne x]; exact z
  have st1 : StI a c l (n + 1) (upd H a (.dK (kvS c l ((n + 1 : Nat) : Int)))) := ⟨ha1, hcl, cs, ls, hc1, hl1, hz1, hz2, hz3⟩
  generalize upd H a (.dK (kvS c l ((n + 1 : Nat) : Int))) = H1 at ha1 hc1 hl1 ev1 st1 ⊢
  -- the place
  refine ⟨_, rfl, .inl ⟨_, rfl, _, rfl, a, _, rfl, dget_of ha1 (val_cells _ _ _), c, cs.map V.int, rfl, .inl (.of hc1), _, _, rfl, rfl, ?_, ?_⟩⟩
  · rw [List.length_map]
    omega
  have ep : (n : Int) % ((cs.map V.int).length : Nat) = (p : Int) := by rw [List.length_map]; exact hp
  show _
  obtain ⟨lv, hlv⟩ : ∃ lv, ls[p]? = some lv := ⟨_, List.getElem?_eq_getElem (by omega)⟩
  obtain ⟨cv, hcv⟩ : ∃ cv, cs[p]? = some cv := ⟨_, List.getElem?_eq_getElem hpl⟩
  have hlm : (ls.map V.int)[p]? = some (.int lv) := by rw [List.getElem?_map, hlv]; rfl
  have hcm : (cs.map V.int)[p]? = some (.int cv) := by rw [List.getElem?_map, hcv]; rfl
  -- what is left there
  refine ⟨_, rfl, a, _, rfl, dget_of ha1 (val_lefts _ _ _), _, rfl, .inl ⟨l, ls.map V.int, _, _, rfl, rfl, .of hl1, ep ▸ atI_nat hlm, ?_⟩⟩
  refine ⟨_, rfl, _, _, rfl, rfl, decide ((0 : Int) < lv), rfl, ?_⟩
  cases hb : decide ((0 : Int) < lv) with
  | true =>
    refine iteT ⟨_, rfl, _, rfl, _, _, rfl, rfl, ⟨by omega, by omega⟩, _, rfl, a, _, rfl, dget_of ha1 (val_lefts _ _ _), _, rfl, l, ls.map V.int, _, p, rfl, rfl, hl1, ?_, ?_⟩
    · rw [ep]
      exact ixN_at (by rw [List.length_map]; omega)
    obtain ⟨v, hv, hvm⟩ := mod_nat lv hm1
    refine ⟨_, rfl, .inl ⟨_, rfl, _, rfl, _, _, rfl, rfl, by omega, q _ _ (.int (v : Int)) (n + 1) (Nat.le_refl _) ?_ ?_ ⟨m, v, rfl, hvm, rfl⟩ (hv ▸ .int _)⟩⟩
    · exact ev1.trans fun b o x y z => by rw [upd_ne y]; exact z
    · refine ⟨by rw [upd_ne hal.symm]; exact ha1, hcl, cs, ls.set p (lv / (m : Int)), by rw [upd_ne hcl]; exact hc1, ?_, hz1, hz2, by rw [List.length_set]; exact hz3⟩
      rw [upd_same, List.map_set]
  | false =>
    have hn40 : (n : Int) < 2 ^ 30 := Int.lt_of_le_of_lt (show (n : Int) ≤ 1000000 by have h9 : n + 1 ≤ 1000000 := hn; omega) (by decide)
    refine iteF ⟨_, rfl, a, _, rfl, dget_of ha1 (val_cells _ _ _), _, rfl, .inl ⟨c, cs.map V.int, _, _, rfl, rfl, .of hc1, ep ▸ atI_nat hcm, _, rfl,
      [.int cv, .int (n : Int)], .int (mixM cv n), .cons (.int _) (.cons (.int _) .nil), ⟨cv, n, rfl, by omega, by omega, rfl⟩, fun v2 H2 s2 d2 => ?_⟩⟩
    obtain rfl := d2.getI
    refine ⟨_, rfl, .inl ⟨_, _, rfl, rfl, [.int (mixM cv n), .int (40 + (n : Int))], .int (mixM (mixM cv n) (40 + n)), .cons (.int _) (.cons (.int _) .nil), ⟨_, _, rfl, by omega, by omega, rfl⟩, fun v3 H3 s3 d3 => ?_⟩⟩
    obtain rfl := d3.getI
    have hb3 := mixM_lt (mixM cv n) (40 + n)
    refine ⟨_, rfl, _, _, rfl, rfl, .inr ⟨by decide, by decide⟩, _, rfl, _, rfl, .inl ⟨_, _, rfl, rfl, [.int (mixM (mixM cv n) (40 + n)), .int (7 + (n : Int))], .int (mixM (mixM (mixM cv n) (40 + n)) (7 + n)), .cons (.int _) (.cons (.int _) .nil), ⟨_, _, rfl, by omega, by omega, rfl⟩, fun v4 H4 s4 d4 => ?_⟩⟩
    obtain rfl := d4.getI
    have s14 := s2.trans (s3.trans s4)
    obtain ⟨v, hv, hvm⟩ := mod_nat ((mixM (mixM cv n) (40 + n) * 2147483647 + mixM (mixM (mixM cv n) (40 + n)) (7 + n)) / 64) hm1
    exact .inl ⟨_, _, rfl, rfl, .inl ⟨_, rfl, _, _, rfl, rfl, ⟨by decide, by decide⟩, _, rfl, _, _, rfl, rfl, by omega, q _ _ (.int (v : Int)) (n + 1) (Nat.le_refl _) (ev1.trans (.of s14)) (st1.same s14) ⟨m, v, rfl, hvm, rfl⟩ (hv ▸ .int _)⟩⟩
abbrev C__law_drawT (P : Program) (w : World) (K : PySem.W.Frag) (mg : Str → Option Value) (base : Heap) := Cal P w K mg base 2 "_law_draw" ["_law_state", "_law_many"] (spS K isDraw 1 atDraw)
end
end K3
set_option Elab.async false
set_option linter.all false
set_option maxRecDepth 100000
set_option maxHeartbeats 4000000
/-! Steps drawn. -/
namespace K3
open PySem PySem.Spec PyProof.Rows L2
/-- a draw, by hand -/
theorem do_draw {K : PySem.W.Frag} {a c l : Addr} {n m : Nat} {H : Hp} {Q : VK} {E : XK} (st : StI a c l n H) (h1 : 1 ≤ m) (h2 : m ≤ 1000) (hn : n + 1 ≤ BIG)
    (q : ∀ (v : Nat) (H' : Hp) (n' : Nat), v < m → n' ≤ n + 1 → EvS a l H H' → StI a c l n' H' → Q (.int (v : Int)) H') : spS K isDraw 1 atDraw [.ref a, .int (m : Int)] H Q E :=
  ⟨a, c, l, n, [.int (m : Int)], [.int (m : Int)], rfl, .cons (.int _) .nil, st, ⟨m, rfl, h1, h2⟩, hn, fun v H' r n' x y z g d => by
    obtain ⟨m', v', e, hv, rfl⟩ := g
    have em : (m : Int) = (m' : Int) := PyData.int.inj (List.cons.inj e).1
    obtain rfl := d.getI
    exact q v' H' n' (by omega) x y z⟩
def isSteps : List PyData → Prop := fun ds => ∃ (cs : List Int) (most : Nat), ds = [.list (cs.map .int), .int (most : Int)] ∧ cs.length ≤ 8 ∧ cs.Nodup ∧ most ≤ 8
def atSteps : List PyData → PyData → Prop := fun ds r => ∃ (cs : List Int) (most : Nat) (ss : List Stp), ds = [.list (cs.map .int), .int (most : Int)] ∧ r = encSteps ss ∧ ss.length ≤ most ∧ ss.length ≤ cs.length ∧ (ss.map (·.1)).Nodup ∧ ∀ s ∈ ss, s.1 ∈ cs
theorem perm_at : ∀ (xs : List Int) (v : Nat) (hv : v < xs.length), xs.Perm (xs[v] :: xs.eraseIdx v)
  | [], v, hv => absurd hv (Nat.not_lt_zero _)
  | x :: xs, 0, _ => List.Perm.refl _
  | x :: xs, v + 1, hv => ((perm_at xs v (Nat.lt_of_succ_lt_succ hv)).cons x).trans (List.Perm.swap _ _ _)
theorem perm_pop {left : List Int} {v : Nat} (hv : v < left.length) (ys cs : List Int) (h : (left ++ ys).Perm cs) : (left.eraseIdx v ++ (ys ++ [left[v]])).Perm cs := by
  refine List.Perm.trans ?_ h
  have h1 : left.Perm (left[v] :: left.eraseIdx v) := perm_at left v hv
  have h2 : (left ++ ys).Perm (left[v] :: left.eraseIdx v ++ ys) := h1.append_right ys
  refine List.Perm.trans ?_ h2.symm
  rw [← List.append_assoc]
  exact List.perm_append_singleton _ _
theorem map_erase : ∀ (xs : List Int) (v : Nat), (xs.map V.int).eraseIdx v = (xs.eraseIdx v).map V.int
  | [], _ => rfl
  | _ :: _, 0 => rfl
  | x :: xs, v + 1 => congrArg (V.int x :: ·) (map_erase xs v)
section
variable {P : Program} {w : World} {K : PySem.W.Frag} {mg : Str → Option Value} {base : Heap}
theorem cal__law_steps (T : Fx K mg) (D : Def K mg "_law_steps" s__law_steps) (C__law_draw : C__law_drawT P w K mg base) : Cal P w K mg base 3 "_law_steps" ["_law_state", "_law_columns", "_law_most"] (spS K isSteps 20 atSteps) := by
  have S := sc__law_steps
  refine mk_calR D S (fun vs H Q E h => by obtain ⟨a, c, l, n, us, ds, rfl, h1, _, ⟨m, n, rfl, _⟩, _⟩ := h; rw [List.length_cons, h1.len]; rfl) (fun _ _ _ _ _ _ us hl => match us, hl with | [_, _, _], _ => rfl) fun f cdv A outer s H E hr => ?_
  refine ⟨_, (pss_cons (ps_par (i := 3) (j := 4) rfl S.nd rfl rfl (by decide) rfl rfl (pa_cons (pe_callTy (call_listK K) rfl T.list (by decide +kernel) (pa_cons (pv 1) pa_nil)) (pa_cons (pe_lst pa_nil) pa_nil)) rfl)
        (pss_cons (ps_for PassesOwn.never rfl (pi_range1 rfl T.range (pa_cons (pe_cal C__law_draw hr (by decide) rfl (pa_cons (pv 0) (pa_cons (pe_op (op_plusK K) pe_int (pe_callB (call_min2 rfl) rfl T.min (by decide +kernel) (pa_cons (pv 2) (pa_cons (pe_callB (call_lenK K) rfl T.len (by decide +kernel) (pa_cons (pv 3) pa_nil)) pa_nil)))) pa_nil))) pa_nil)) (pg_name (i := 5) S.nd rfl (by first | exact Or.inl rfl | exact Or.inr rfl)) (pss_cons (ps_set (i := 6) S.nd rfl (by first | exact Or.inl rfl | exact Or.inr rfl) (pe_bm PySem.F.plainAttrs_list PySem.F.slot_list_pop PySem.F.type_list_pop mt_popAt (pv 3) (pa_cons (pe_cal C__law_draw hr (by decide) rfl (pa_cons (pv 0) (pa_cons (pe_callB (call_lenK K) rfl T.len (by decide +kernel) (pa_cons (pv 3) pa_nil)) pa_nil))) pa_nil)))
          (pss_one (ps_expr (pe_bm PySem.F.plainAttrs_list PySem.F.slot_list_append PySem.F.type_list_append mt_append (pv 4) (pa_cons (pe_tupF (pa_cons (pv 6) (pa_cons (pe_ix (ix_uK K) (pe_lst (pa_cons pe_str (pa_cons pe_str pa_nil))) (pe_cal C__law_draw hr (by decide) rfl (pa_cons (pv 0) (pa_cons pe_int pa_nil))) (fun _ _ => rfl)) pa_nil))) pa_nil))))))
        (pss_one (ps_ret (pe_callTy (call_tupK K) rfl T.tuple (by decide +kernel) (pa_cons (pv 4) pa_nil)))))), fun D vs H E h => ?_⟩
  obtain ⟨a, c, l, n, us, ds, rfl, hd, st, ⟨cs, most, rfl, hcs, hnd, hm⟩, hn, q⟩ := h
  cases hd with
  | cons d1 d2 =>
  cases d2 with
  | cons d2 d3 =>
  cases d3
  cases d2
  obtain ⟨b, xs, rfl, hb, hx⟩ := d1.getL
  obtain rfl := hx.ints
  -- the two lists
  refine ⟨_, rfl, b, _, rfl, .inl hb, fun p np => ⟨Nat.zero_le _, fun g ng => ⟨_, _, rfl, ?_⟩⟩⟩
  have hgp : g ≠ p := by
    rintro rfl
    rw [upd_same] at ng
    cases ng
  have ng0 : H g = none := by
    rw [upd_ne hgp] at ng
    exact ng
  have sm : Same H (upd (upd H p (.lst (cs.map V.int))) g (.lst [])) := same_mut (same_new np) ng0
  have st1 := st.same sm
  have ev1 : EvS a l H (upd (upd H p (.lst (cs.map V.int))) g (.lst [])) := .of sm
  have hp1 : upd (upd H p (.lst (cs.map V.int))) g (.lst []) p = some (.lst (cs.map V.int)) := by rw [upd_ne hgp.symm, upd_same]
  have hg1 : upd (upd H p (.lst (cs.map V.int))) g (.lst []) g = some (.lst []) := upd_same
  have pl : p ≠ l := by
    rintro rfl
    obtain ⟨_, _, _, _, _, z, _⟩ := st
    rw [z] at np
    cases np
  have pc : p ≠ c := by
    rintro rfl
    obtain ⟨_, _, _, _, z, _⟩ := st
    rw [z] at np
    cases np
  have pa : p ≠ a := by
    rintro rfl
    rw [st.1] at np
    cases np
  have gl : g ≠ l := by
    rintro rfl
    obtain ⟨_, _, _, _, _, z, _⟩ := st
    rw [z] at ng0
    cases ng0
  have gc : g ≠ c := by
    rintro rfl
    obtain ⟨_, _, _, _, z, _⟩ := st
    rw [z] at ng0
    cases ng0
  have ga : g ≠ a := by
    rintro rfl
    rw [st.1] at ng0
    cases ng0
  generalize upd (upd H p (.lst (cs.map V.int))) g (.lst []) = H1 at st1 ev1 hp1 hg1 ⊢
  -- how many
  have emin : (if (((cs.map V.int).length : Nat) : Int) < (most : Int) then (((cs.map V.int).length : Nat) : Int) else (most : Int)) = ((min cs.length most : Nat) : Int) := by
    rw [List.length_map]
    split <;> omega
  refine ⟨_, rfl, _, rfl, _, rfl, p, _, rfl, .inl (.of hp1), _, _, rfl, .inl ⟨_, _, rfl, rfl, ?_⟩⟩
  show spS K isDraw 1 atDraw [.ref a, .int ((1 : Int) + (if (((cs.map V.int).length : Nat) : Int) < (most : Int) then (((cs.map V.int).length : Nat) : Int) else (most : Int)))] H1 _ E0
  rw [emin, show (1 : Int) + ((min cs.length most : Nat) : Int) = ((min cs.length most + 1 : Nat) : Int) by omega]
  refine do_draw st1 (by omega) (by omega) (by omega) fun cnt H2 n2 hcnt hn2 ev2 st2 => ?_
  have hp2 := ev2 p _ pa pl hp1
  have hg2 := ev2 g _ ga gl hg1
  have cnt1 : ((cnt : Nat) : Int) < 2 ^ 62 := Int.lt_of_le_of_lt (show (cnt : Int) ≤ 8 by omega) (by decide)
  refine ⟨(cnt : Int), rfl, by omega, cnt1, ?_⟩
  refine ⟨fun j m σ' H' => m = cnt - j ∧ j ≤ cnt ∧ σ'.length = 7 ∧ σ'[0]? = some (some (.ref a)) ∧ σ'[3]? = some (some (.ref p)) ∧ σ'[4]? = some (some (.ref g)) ∧
      ∃ (n' : Nat) (left : List Int) (ss : List Stp) (gv : List V), n' ≤ n + 1 + 2 * j ∧ EvS a l H H' ∧ StI a c l n' H' ∧ H' p = some (.lst (left.map V.int)) ∧ H' g = some (.lst gv) ∧ DqAll K H' gv (ss.map encStep) ∧ ss.length = j ∧ (left ++ ss.map (·.1)).Perm cs,
    ⟨cnt, by omega, Nat.zero_le _, rfl, rfl, rfl, rfl, n2, cs, [], [], by omega, ev1.trans ev2, st2, hp2, hg2, .nil, rfl, by rw [List.map_nil, List.append_nil]⟩, ?_⟩
  clear hp1 hg1 hp2 hg2 st2 ev2 st1 ev1
  rintro j m σ' H' ⟨rfl, hj, hlen, z0, z3, z4, n', left, ss, gv, hn', ev, sti, hp', hg', dq, hss, hperm⟩
  have hll : left.length + j = cs.length := by
    have := hperm.length_eq
    rw [List.length_append, List.length_map, hss] at this
    exact this
  by_cases hlt : j < cnt
  · refine .inr ⟨?_, fun σ'' H'' => σ''.length = 7 ∧ σ''[0]? = some (some (.ref a)) ∧ σ''[3]? = some (some (.ref p)) ∧ σ''[4]? = some (some (.ref g)) ∧
      ∃ (n' : Nat) (left : List Int) (ss : List Stp) (gv : List V), n' ≤ n + 1 + 2 * (j + 1) ∧ EvS a l H H'' ∧ StI a c l n' H'' ∧ H'' p = some (.lst (left.map V.int)) ∧ H'' g = some (.lst gv) ∧ DqAll K H'' gv (ss.map encStep) ∧ ss.length = j + 1 ∧ (left ++ ss.map (·.1)).Perm cs,
      fun σ'' H'' z => ⟨cnt - (j + 1), by omega, rfl, hlt, z⟩, fun x H2 hy => ?_⟩
    · show j < ((cnt : Int)).toNat
      omega
    obtain ⟨rfl, rfl⟩ := hy
    have w0 : (σ'.set 5 (some (.int (0 + (j : Int)))))[0]? = some (some (.ref a)) := by rw [List.getElem?_set_ne (by decide)]; exact z0
    have w3 : (σ'.set 5 (some (.int (0 + (j : Int)))))[3]? = some (some (.ref p)) := by rw [List.getElem?_set_ne (by decide)]; exact z3
    have w4 : (σ'.set 5 (some (.int (0 + (j : Int)))))[4]? = some (some (.ref g)) := by rw [List.getElem?_set_ne (by decide)]; exact z4
    have wl : (σ'.set 5 (some (.int (0 + (j : Int))))).length = 7 := by rw [List.length_set]; exact hlen
    show tSeq _ _ _ (σ'.set 5 (some (.int (0 + (j : Int))))) H2
    generalize σ'.set 5 (some (.int (0 + (j : Int)))) = σ5 at w0 w3 w4 wl ⊢
    refine ⟨_, w3, .inl ⟨rfl, _, .of hp'⟩, _, w0, _, w3, p, _, rfl, .inl (.of hp'), ?_⟩
    show spS K isDraw 1 atDraw [.ref a, .int (((left.map V.int).length : Nat) : Int)] H2 _ E0
    rw [List.length_map]
    refine do_draw sti (by omega) (by omega) (by omega) fun v H3 n3 hv hn3 ev3 st3 => ?_
    have hp3 := ev3 p _ pa pl hp'
    have hg3 := ev3 g _ ga gl hg'
    have hlv : (left.map V.int)[v]? = some (.int left[v]) := by rw [List.getElem?_map, List.getElem?_eq_getElem hv]; rfl
    refine ⟨p, _, _, v, _, rfl, rfl, hp3, by omega, Int.lt_of_le_of_lt (show (v : Int) ≤ 8 by omega) (by decide), ?_, hlv, ?_⟩
    · rw [PySem.seqIndex_of (by omega) (by rw [List.length_map]; omega)]
      rfl
    rw [map_erase]
    -- what is left is shorter
    have ev4 : EvS a l H (upd H3 p (.lst ((left.eraseIdx v).map V.int))) := fun b o x y z => by
      rw [upd_ne (by rintro rfl; rw [np] at z; cases z)]
      exact ev3 b o x y (ev b o x y z)
    have sT4 : SameT H2 (upd H3 p (.lst ((left.eraseIdx v).map V.int))) := (sti.samT ev3).trans (.wr hp3 (by intro _ z; cases z) (by intro _ _ z; cases z))
    have st4 : StI a c l n3 (upd H3 p (.lst ((left.eraseIdx v).map V.int))) := by
      obtain ⟨g1, g2, ks, ls, g3, g4, g5⟩ := st3
      exact ⟨by rw [upd_ne pa.symm]; exact g1, g2, ks, ls, by rw [upd_ne pc.symm]; exact g3, by rw [upd_ne pl.symm]; exact g4, g5⟩
    have hp4 : upd H3 p (.lst ((left.eraseIdx v).map V.int)) p = some (.lst ((left.eraseIdx v).map V.int)) := upd_same
    have hg4 : upd H3 p (.lst ((left.eraseIdx v).map V.int)) g = some (.lst gv) := by rw [upd_ne hgp]; exact hg3
    have dq4 := dpAll_st sT4 dq (frzAll_map encStep frz_step _)
    clear hp3 hg3 st3 ev3 hp' hg' sti ev sT4 dq
    generalize upd H3 p (.lst ((left.eraseIdx v).map V.int)) = H4 at ev4 st4 hp4 hg4 dq4 ⊢
    have y0 : (σ5.set 6 (some (.int left[v])))[0]? = some (some (.ref a)) := by rw [List.getElem?_set_ne (by decide)]; exact w0
    have y3 : (σ5.set 6 (some (.int left[v])))[3]? = some (some (.ref p)) := by rw [List.getElem?_set_ne (by decide)]; exact w3
    have y4 : (σ5.set 6 (some (.int left[v])))[4]? = some (some (.ref g)) := by rw [List.getElem?_set_ne (by decide)]; exact w4
    have y6 : (σ5.set 6 (some (.int left[v])))[6]? = some (some (.int left[v])) := by rw [List.getElem?_set_self (by omega)]
    have yl : (σ5.set 6 (some (.int left[v]))).length = 7 := by rw [List.length_set]; exact wl
    show tDrop (tBM _ _ _ (tVar 4) _) { nx := _, rt := _, bk := _, ct := _ } (σ5.set 6 (some (.int left[v]))) H4
    generalize σ5.set 6 (some (.int left[v])) = σ6 at y0 y3 y4 y6 yl ⊢
    refine ⟨_, y4, .inl ⟨rfl, _, .of hg4⟩, _, y6, sz_line (show 2 ≤ 1000 by decide), fun u nu => ⟨_, y0, ?_⟩⟩
    have s5 := same_new (o := .lst [V.str "up", V.str "down"]) nu
    refine do_draw (E := E0) (m := 2) (st4.same s5) (by decide) (by decide) (by omega) fun v2 H6 n6 hv2 hn6 ev6 st6 => ?_
    have ua : u ≠ a := by
      rintro rfl
      rw [st4.1] at nu
      cases nu
    have ul : u ≠ l := by
      rintro rfl
      obtain ⟨_, _, _, _, _, z, _⟩ := st4
      rw [z] at nu
      cases nu
    have hu6 : H6 u = some (.lst [V.str "up", V.str "down"]) := ev6 u _ ua ul upd_same
    obtain ⟨bb, hbb⟩ : ∃ bb : Bool, [V.str "up", V.str "down"][v2]? = some (.str (wS bb)) := by
      match v2, hv2 with
      | 0, _ => exact ⟨true, rfl⟩
      | 1, _ => exact ⟨false, rfl⟩
    refine .inl ⟨u, _, _, _, rfl, rfl, .of hu6, atI_nat hbb, sz_line (show 2 ≤ 1000 by decide), fun t o no nt => ?_⟩
    have sT6 : SameT H4 H6 := (SameT.of s5).trans ((st4.same s5).samT ev6)
    have hp6 := ev6 p _ pa pl (s5 _ _ hp4)
    have hg6 := ev6 g _ ga gl (s5 _ _ hg4)
    have s7 := same_new (o := .frz o (.tup [V.int left[v], V.str (wS bb)])) nt
    have hg7 := s7 _ _ hg6
    have hp7 := s7 _ _ hp6
    have st7 := st6.same s7
    have ht7 : upd H6 t (.frz o (.tup [V.int left[v], V.str (wS bb)])) t = some (.frz o (.tup [V.int left[v], V.str (wS bb)])) := upd_same
    have ev7 : EvS a l H (upd H6 t (.frz o (.tup [V.int left[v], V.str (wS bb)]))) := (ev4.trans (.of s5)).trans (ev6.trans (.of s7))
    have dq7 := dpAll_st (sT6.trans (.of s7)) dq4 (frzAll_map encStep frz_step _)
    have hlg : gv.length = j := by rw [dq4.len, List.length_map, hss]
    refine ⟨g, gv, _, rfl, rfl, hg7, Nat.lt_of_le_of_lt (show gv.length ≤ 1000 by omega) (by decide), ?_⟩
    generalize upd H6 t (.frz o (.tup [V.int left[v], V.str (wS bb)])) = H7 at hg7 hp7 st7 ht7 ev7 dq7 ⊢
    have sT8 : SameT H7 (upd H7 g (.lst (gv ++ [.ref t]))) := .wr hg7 (by intro _ z; cases z) (by intro _ _ z; cases z)
    have ht8 := sT8.2 _ _ _ ht7
    refine ⟨yl, y0, y3, y4, n6, left.eraseIdx v, ss ++ [(left[v], bb)], gv ++ [.ref t], by omega, fun b o x y z => ?_, ?_, by rw [upd_ne hgp.symm]; exact hp7, upd_same, ?_, by rw [List.length_append, hss]; rfl, ?_⟩
    · rw [upd_ne (by rintro rfl; rw [ng0] at z; cases z)]
      exact ev7 b o x y z
    · obtain ⟨g1, g2, ks, ls, g3, g4, g5⟩ := st7
      exact ⟨by rw [upd_ne ga.symm]; exact g1, g2, ks, ls, by rw [upd_ne gc.symm]; exact g3, by rw [upd_ne gl.symm]; exact g4, g5⟩
    · rw [List.map_append]
      exact .app (dpAll_st sT8 dq7 (frzAll_map encStep frz_step _)) (.cons (.tup ht8 no (.cons (.int _) (.cons (.str _) .nil))) .nil)
    · rw [List.map_append]
      exact perm_pop hv _ _ hperm
  · have ej : j = cnt := by omega
    subst ej
    refine .inl ⟨?_, ?_⟩
    · show ((j : Int)).toNat ≤ j
      omega
    refine ⟨_, z4, g, _, rfl, .of hg', fun t o no nt => ?_⟩
    have s8 := same_new (o := .frz o (.tup gv)) nt
    have hnd2 : (left ++ ss.map (·.1)).Nodup := hperm.nodup_iff.mpr hnd
    exact q _ _ (encSteps ss) n' (by omega) (ev.trans (.of s8)) (sti.same s8) ⟨cs, most, ss, rfl, rfl, by omega, by omega, (List.nodup_append.mp hnd2).2.1, fun x hx => hperm.mem_iff.mp (List.mem_append_right _ (List.mem_map.mpr ⟨x, hx, rfl⟩))⟩
      (.tup upd_same no (dpAll_same s8 dq))
abbrev C__law_stepsT (P : Program) (w : World) (K : PySem.W.Frag) (mg : Str → Option Value) (base : Heap) := Cal P w K mg base 3 "_law_steps" ["_law_state", "_law_columns", "_law_most"] (spS K isSteps 20 atSteps)
end
end K3
set_option Elab.async false
set_option linter.all false
set_option maxRecDepth 100000
set_option maxHeartbeats 4000000
/-! Indexes and lookups drawn. -/
namespace K3
open PySem PySem.Spec PyProof.Rows L2
theorem rgD_pair (n : Nat) : (rgD n).Pairwise (· < ·) := by
  unfold rgD
  rw [List.pairwise_map]
  exact List.pairwise_lt_range.imp fun z => by omega
theorem enil_steps (ss : List Stp) : PyData.eqv (encSteps ss) (.tuple []) = decide (ss = []) := eqv_steps ss []
theorem enil_lot (cs : List Int) : PyData.eqv (encLot cs) (.tuple []) = decide (cs = []) := eqv_lot cs []
theorem sh_tnil : SeqAt.shaped (.tuple []) = true := sh_lot []
section
variable {P : Program} {w : World} {K : PySem.W.Frag} {mg : Str → Option Value} {base : Heap}
theorem de_listRg {te : TE} {ρ : Rho} {m : Nat} (h : DE K te ρ (.int (m : Int))) (hm : m ≤ 1000) : DE K (tLstRg (tRg1 te)) ρ (.list ((rgD m).map .int)) := fun σ H Q e q => h σ H _ e fun v H1 s1 d1 =>
  ⟨(m : Int), d1.getI, RgOk.of_le (by decide) (by omega) (by decide) (by omega), fun p np => q _ _ (s1.trans (same_new np)) (.lst (.of upd_same) (by
    have e2 : rgV 0 (m : Int) = (rgD m).map V.int := by
      unfold rgV rgD
      rw [List.map_map, show ((m : Int) - 0).toNat = m by omega]
      refine List.map_congr_left fun i _ => ?_
      show V.int (0 + (i : Int)) = V.int (i : Int)
      rw [Int.zero_add]
    rw [e2]
    exact DqAll.ofInts _))⟩
/-! ### an index -/
def isCols : List PyData → Prop := fun ds => ∃ c : Nat, ds = [.int (c : Int)] ∧ 1 ≤ c ∧ c ≤ 8
def atIndex : List PyData → PyData → Prop := fun ds r => ∃ (c : Nat) (ix : List Stp), ds = [.int (c : Int)] ∧ r = encSteps ix ∧ IxOk c ix
theorem steps_ok {c most : Nat} {cs : List Int} {r : PyData} (hc : c ≤ 8) (hm : most ≤ 8) (hs : cs.Sublist (rgD c)) (h : atSteps [.list (cs.map .int), .int (most : Int)] r) : ∃ ss : List Stp, r = encSteps ss ∧ StepsOk c ss ∧ ∀ s ∈ ss, s.1 ∈ cs := by
  obtain ⟨ks, most', ss, e, rfl, h1, h2, h3, h4⟩ := h
  have e1 : cs.map PyData.int = ks.map PyData.int := PyData.list.inj (List.cons.inj e).1
  have e2 : cs = ks := map_inj (fun _ _ z => PyData.int.inj z) _ _ e1
  subst e2
  have hl := hs.length_le
  rw [rgD_len] at hl
  refine ⟨ss, rfl, ⟨fun s m => ?_, h3, by omega⟩, h4⟩
  obtain ⟨i, hi, hc⟩ := rgD_mem (hs.subset (h4 s m))
  omega
theorem cal__law_index (T : Fx K mg) (D : Def K mg "_law_index" s__law_index) (C__law_steps : C__law_stepsT P w K mg base) (C__law_draw : C__law_drawT P w K mg base) : Cal P w K mg base 4 "_law_index" ["_law_state", "_law_columns"] (spS K isCols 25 atIndex) := by
  have S := sc__law_index
  refine mk_calS D S (fun ds h => by obtain ⟨a, rfl, _⟩ := h; rfl) (fun ds h d m => by obtain ⟨a, rfl, _⟩ := h; obtain rfl := List.mem_singleton.mp m; rfl) (fun _ _ _ _ _ _ us hl => match us, hl with | [_, _], _ => rfl) fun f cdv A outer s H E hr => ?_
  have hu64 := hu64_of hr
  refine ⟨_, (pss_cons (ps_set (i := 2) S.nd rfl (by first | exact Or.inl rfl | exact Or.inr rfl) (pe_cal C__law_steps hr (by decide) rfl (pa_cons (pv 0) (pa_cons (pe_listRg rfl rfl T.list (prg_1 rfl T.range (pv 1))) (pa_cons (pv 1) pa_nil)))))
        (pss_one (ps_ret (pe_ifExp (pt_cmpR (op_neK K hu64) (pv 2) (pe_tupF pa_nil) (nomark _)) (pv 2) (pe_tupF (pa_cons (pe_tupF (pa_cons (pe_cal C__law_draw hr (by decide) rfl (pa_cons (pv 0) (pa_cons (pv 1) pa_nil))) (pa_cons pe_str pa_nil))) pa_nil)))))), fun a c l ds h => ?_⟩
  obtain ⟨n, rfl, h1, h2⟩ := h
  refine (sr_seq (sn_set (R := fun r => ∃ ss : List Stp, r = encSteps ss ∧ StepsOk n ss) ((se_call (S := ⟨0, a, c, l⟩) (sa_pure (da_cons (de_listRg (de_var rfl) (by omega)) (da_cons (de_var rfl) da_nil))) fun ds e => by
      subst e
      exact ⟨⟨rgD n, n, rfl, by rw [rgD_len]; exact h2, rgD_nodup n, h2⟩, fun r hr => by
        obtain ⟨ss, e, h, _⟩ := steps_ok h2 h2 (List.Sublist.refl _) hr
        exact ⟨ss, e, h⟩⟩)) (show (2 : Nat) ≠ 0 by decide) fun r h => by obtain ⟨ss, rfl, _⟩ := h; exact frz_steps ss)
    fun ρ' g => ?_).w (k := 20 + 1) (by decide) fun r h => h
  obtain ⟨r, ⟨ss, rfl, hs⟩, rfl⟩ := g
  refine (sr_ret (se_if (sb_pure (dt_test (de_op (de_var rfl) (de_tup da_nil (by decide)) (r_neD (sh_steps _) sh_tnil)))) (fun z => ?_) fun z => ?_)).w (k := 0 + 1) (by decide) fun r h => h
  · refine (se_pure (de_var rfl)).w (by decide) fun r e => ⟨n, ss, rfl, e, hs, ?_⟩
    have z' : true = !PyData.eqv (encSteps ss) (.tuple []) := z
    rw [enil_steps] at z'
    rintro rfl
    cases z'
  · refine (se_tup (sa_head (se_tup (sa_head (se_call (S := ⟨0, a, c, l⟩) (R' := fun r => ∃ v : Nat, v < n ∧ r = .int (v : Int)) (sa_pure (da_cons (de_var rfl) da_nil)) fun ds e => ?_) (da_cons de_str da_nil)) fun ds h => ?_) da_nil) fun ds h => ?_).w (by decide) fun r h => ?_
    · subst e
      refine ⟨⟨n, rfl, h1, by omega⟩, fun r h => ?_⟩
      obtain ⟨m, v, e, hv, rfl⟩ := h
      have em : (n : Int) = (m : Int) := PyData.int.inj (List.cons.inj e).1
      exact ⟨v, by omega, rfl⟩
    · obtain ⟨x, _, rfl⟩ := h
      exact (show 2 ≤ 1000 by decide)
    · obtain ⟨x, _, rfl⟩ := h
      exact (show 1 ≤ 1000 by decide)
    · obtain ⟨ds, ⟨x, ⟨es, ⟨y, ⟨v, hv, rfl⟩, rfl⟩, rfl⟩, rfl⟩, rfl⟩ := h
      refine ⟨n, [((v : Int), true)], rfl, rfl, ⟨fun s m => ?_, (List.pairwise_singleton _ _), (show 1 ≤ 8 by decide)⟩, by simp⟩
      obtain rfl := List.mem_singleton.mp m
      show (0 : Int) ≤ (v : Int) ∧ (v : Int) < (n : Int)
      omega
abbrev C__law_indexT (P : Program) (w : World) (K : PySem.W.Frag) (mg : Str → Option Value) (base : Heap) := Cal P w K mg base 4 "_law_index" ["_law_state", "_law_columns"] (spS K isCols 25 atIndex)
end
end K3
set_option Elab.async false
set_option linter.all false
set_option maxRecDepth 100000
set_option maxHeartbeats 4000000
/-! Lookups drawn. -/
namespace K3
open PySem PySem.Spec PyProof.Rows L2
/-- a draw below m, told plainly -/
theorem draw_lt {m : Nat} {r : PyData} (h : atDraw [.int (m : Int)] r) : ∃ v : Nat, v < m ∧ r = .int (v : Int) := by
  obtain ⟨m', v, e, hv, rfl⟩ := h
  have em : (m : Int) = (m' : Int) := PyData.int.inj (List.cons.inj e).1
  exact ⟨v, by omega, rfl⟩
section
variable {P : Program} {w : World} {K : PySem.W.Frag} {mg : Str → Option Value} {base : Heap}
/-- a draw among m -/
theorem se_draw {S : Sx} {E : XK} {ρ : Rho} {te : TE} {m : Nat} (h : DE K te ρ (.int (m : Int))) (h1 : 1 ≤ m) (h2 : m ≤ 1000) : SE K S (tCall (spS K isDraw 1 atDraw) [] E (tCons (tVar S.i) (tCons te tNil))) ρ 1 (fun r => ∃ v : Nat, v < m ∧ r = .int (v : Int)) :=
  (se_call (sa_pure (da_cons h da_nil)) fun ds e => by subst e; exact ⟨⟨m, rfl, h1, h2⟩, fun r h => draw_lt h⟩).w (by decide) fun r h => h
theorem sb_draw0 {S : Sx} {E : XK} {ρ : Rho} {te : TE} {m : Nat} {d : Int} (h : DE K te ρ (.int (m : Int))) (h1 : 1 ≤ m) (h2 : m ≤ 1000) :
    SB K S (tTest (tOp (rEqD K) (tCall (spS K isDraw 1 atDraw) [] E (tCons (tVar S.i) (tCons te tNil))) (tC (.int d)))) ρ 1 (fun _ => True) :=
  sb_test (R := fun r => ∃ b, r = .bool b) (se_opL (se_draw h h1 h2) de_int fun x hx => by
    obtain ⟨v, _, rfl⟩ := hx
    exact ⟨_, r_eqD (sh_int _) (sh_int _), _, rfl⟩) fun r h => h
def atLookup : List PyData → PyData → Prop := fun ds r => ∃ (c : Nat) (k : Lk), ds = [.int (c : Int)] ∧ r = encLk k ∧ LkOk c k
theorem rg_lt {c : Nat} {x : Int} (h : x ∈ rgD c) : 0 ≤ x ∧ x < (c : Int) := by
  obtain ⟨i, rfl, hi⟩ := rgD_mem h
  omega
theorem cal__law_lookup (T : Fx K mg) (D : Def K mg "_law_lookup" s__law_lookup) (C__law_steps : C__law_stepsT P w K mg base) (C__law_draw : C__law_drawT P w K mg base) : Cal P w K mg base 4 "_law_lookup" ["_law_state", "_law_columns"] (spS K isCols 40 atLookup) := by
  have S := sc__law_lookup
  refine mk_calS D S (fun ds h => by obtain ⟨a, rfl, _⟩ := h; rfl) (fun ds h d m => by obtain ⟨a, rfl, _⟩ := h; obtain rfl := List.mem_singleton.mp m; rfl) (fun _ _ _ _ _ _ us hl => match us, hl with | [_, _], _ => rfl) fun f cdv A outer s H E hr => ?_
  have hu64 := hu64_of hr
  have hu65 := hu65_of hr
  refine ⟨_, (pss_cons (ps_set (i := 2) S.nd rfl (by first | exact Or.inl rfl | exact Or.inr rfl) (pe_callTy (call_tupK K) rfl T.tuple (by decide +kernel) (pa_cons (pe_lc (own := [("_law_column", 4)]) (g := gName 4) rfl S.nd (pi_range1 rfl T.range (pa_cons (pv 1) pa_nil)) (blkOk_by (own := [("_law_column", 4)]) (N := N__law_lookup) (sc := defScope s__law_lookup) (by decide +kernel)) (fun _ _ _ _ _ => (pg_name (i := 4) S.nd rfl (by first | exact Or.inl rfl | exact Or.inr rfl))) (fun _ _ _ _ _ => (pts_one (pt_cmpR (op_eqK K hu64) (pe_cal C__law_draw hr (by decide) rfl (pa_cons (pv 0) (pa_cons pe_int pa_nil))) pe_int (nomark _)))) (fun _ _ _ _ _ => (pv 4))) pa_nil)))
        (pss_cons (ps_set (i := 3) S.nd rfl (by first | exact Or.inl rfl | exact Or.inr rfl) (pe_cal C__law_steps hr (by decide) rfl (pa_cons (pv 0) (pa_cons (pe_lc (own := [("_law_column", 4)]) (g := gName 4) rfl S.nd (pi_range1 rfl T.range (pa_cons (pv 1) pa_nil)) (blkOk_by (own := [("_law_column", 4)]) (N := N__law_lookup) (sc := defScope s__law_lookup) (by decide +kernel)) (fun _ _ _ _ _ => (pg_name (i := 4) S.nd rfl (by first | exact Or.inl rfl | exact Or.inr rfl))) (fun _ _ _ _ _ => (pts_one (pt_cmpR (op_notInK K hu65) (pv 4) (pv 2) rfl))) (fun _ _ _ _ _ => (pv 4))) (pa_cons pe_int pa_nil)))))
        (pss_one (ps_ret (pe_ifExp (PW.pt (pw_or (pt_cmpR (op_neK K hu64) (pv 2) (pe_tupF pa_nil) (nomark _)) (pw_or1 (pt_cmpR (op_neK K hu64) (pv 3) (pe_tupF pa_nil) (nomark _))))) (pe_tupF (pa_cons (pv 2) (pa_cons (pv 3) pa_nil))) (pe_tupF (pa_cons (pe_tupF (pa_cons (pe_cal C__law_draw hr (by decide) rfl (pa_cons (pv 0) (pa_cons (pv 1) pa_nil))) pa_nil)) (pa_cons (pe_tupF pa_nil) pa_nil)))))))), fun a c l ds h => ?_⟩
  obtain ⟨n, rfl, h1, h2⟩ := h
  refine (sr_seq (sn_set (R := fun r => ∃ cs : List Int, r = encLot cs ∧ cs.Sublist (rgD n)) (se_cb (sa_head (se_lc (S := ⟨0, a, c, l⟩) (i := 4) (m := n) (show (4 : Nat) ≠ 0 by decide) (by show 4 < 5; decide) (by omega) (da_cons (de_var rfl) da_nil)
      fun j hj => sb_draw0 (S := ⟨0, a, c, l⟩) (m := 3) de_int (by decide) (by decide)) da_nil) fun ds h => by
        obtain ⟨x, ⟨xs, rfl, hsub⟩, rfl⟩ := h
        exact ⟨_, c_tuple, xs, rfl, hsub⟩) (show (2 : Nat) ≠ 0 by decide) fun r h => by obtain ⟨cs, rfl, _⟩ := h; exact frz_lot cs)
    fun ρ' g => ?_).w (k := n * 1 + 21) (by omega) fun r h => h
  obtain ⟨r, ⟨cs, rfl, hsub⟩, rfl⟩ := g
  have hlt : ∀ x ∈ cs, 0 ≤ x ∧ x < (n : Int) := fun x m => rg_lt (hsub.subset m)
  have hasc : cs.Pairwise (· < ·) := (rgD_pair n).sublist hsub
  have hlen := hsub.length_le
  rw [rgD_len] at hlen
  refine (sr_seq (sn_set (R := fun r => ∃ ss : List Stp, r = encSteps ss ∧ StepsOk n ss ∧ ∀ s ∈ ss, s.1 ∉ cs) ((se_call (S := ⟨0, a, c, l⟩) (sa_pure (da_cons (de_lc (items := rgD n) (enc := .int) _ (fun x => !decide (x ∈ cs)) .int
      (di_range (n := n) (da_cons (de_var rfl) da_nil) (by omega)) (by rw [rgD_len]; omega) (fun x _ => dg_name (by decide))
      (fun x m => dt_test ((de_op (de_var rfl) (de_var rfl) (r_inU (neg := true) rfl (sh_int _) (sh_lot _))).is ?_)) (fun x m z => de_var rfl) (fun _ => rfl)) (da_cons (de_int (i := ((3 : Nat) : Int))) da_nil))) fun ds e => ?_).w (k' := 20) (by decide) fun r h => h) (show (3 : Nat) ≠ 0 by decide) fun r h => by obtain ⟨ss, rfl, _⟩ := h; exact frz_steps ss)
    fun ρ' g => ?_).w (k := 20 + 1) (by omega) fun r h => h
  · show PyData.bool (!((cs.map PyData.int).any fun z => PyData.eqv z (.int x))) = _
    rw [any_int]
  · subst e
    have hs := (List.filter_sublist (l := rgD n) (p := fun x => !decide (x ∈ cs)))
    have hl := hs.length_le
    rw [rgD_len] at hl
    refine ⟨⟨_, 3, rfl, by omega, (rgD_nodup n).sublist hs, by decide⟩, fun r h => ?_⟩
    obtain ⟨ss, e, ok, hm⟩ := steps_ok h2 (by decide) hs h
    refine ⟨ss, e, ok, fun s m z => ?_⟩
    have := (List.mem_filter.mp (hm s m)).2
    rw [decide_eq_true z] at this
    cases this
  obtain ⟨r, ⟨ss, rfl, hok, hno⟩, rfl⟩ := g
  refine (sr_ret (se_if (sb_pure (dt_or (a := !decide (cs = [])) (b := !decide (ss = [])) (dt_test ((de_op (de_var rfl) (de_tup da_nil (by decide)) (r_neD (sh_lot _) sh_tnil)).is (by rw [enil_lot]))) fun _ => dt_test ((de_op (de_var rfl) (de_tup da_nil (by decide)) (r_neD (sh_steps _) sh_tnil)).is (by rw [enil_steps])))) (fun z => ?_) fun z => ?_)).w (k := 0 + 1) (by decide) fun r h => h
  · refine (se_pure (de_tup (da_cons (de_var rfl) (da_cons (de_var rfl) da_nil)) (show 2 ≤ 1000 by decide))).w (by decide) fun r e => ⟨n, (cs, ss), rfl, e, ⟨hlt, hasc, Nat.le_trans hlen h2⟩, hok, hno, ?_⟩
    rintro ⟨rfl, rfl⟩
    have z' : true = (!decide (([] : List Int) = []) || !decide (([] : List Stp) = [])) := z
    simp at z'
  · refine (se_tup (sa_head (se_tup (sa_head (se_draw (S := ⟨0, a, c, l⟩) (m := n) (de_var rfl) h1 (by omega)) da_nil) fun ds h => ?_) (da_cons (de_tup da_nil (by decide)) da_nil)) fun ds h => ?_).w (by decide) fun r h => ?_
    · obtain ⟨x, _, rfl⟩ := h
      exact (show 1 ≤ 1000 by decide)
    · obtain ⟨x, _, rfl⟩ := h
      exact (show 2 ≤ 1000 by decide)
    · obtain ⟨ds, ⟨x, ⟨es, ⟨y, ⟨v, hv, rfl⟩, rfl⟩, rfl⟩, rfl⟩, rfl⟩ := h
      refine ⟨n, ([(v : Int)], []), rfl, rfl, ⟨fun x m => ?_, List.pairwise_singleton _ _, (show 1 ≤ 8 by decide)⟩, ⟨fun s m => (nomatch m), List.nodup_nil, Nat.zero_le _⟩, fun s m => (nomatch m), fun z => by cases z.1⟩
      obtain rfl := List.mem_singleton.mp m
      omega
abbrev C__law_lookupT (P : Program) (w : World) (K : PySem.W.Frag) (mg : Str → Option Value) (base : Heap) := Cal P w K mg base 4 "_law_lookup" ["_law_state", "_law_columns"] (spS K isCols 40 atLookup)
end
end K3
set_option Elab.async false
set_option linter.all false
set_option maxRecDepth 100000
set_option maxHeartbeats 4000000
/-! A lookup drawn near an index. -/
namespace K3
open PySem PySem.Spec PyProof.Rows L2
theorem cols_turn (ss : List Stp) : (turnM ss).map (·.1) = ss.map (·.1) := by
  unfold turnM
  rw [List.map_map]
  rfl
theorem stepsOk_sub {c : Int} {ix ss : List Stp} (h : StepsOk c ix) (hs : ss.Sublist ix) : StepsOk c ss :=
  ⟨fun s m => h.1 s (hs.subset m), h.2.1.sublist (hs.map _), Nat.le_trans hs.length_le h.2.2⟩
theorem stepsOk_turn {c : Int} {ss : List Stp} (h : StepsOk c ss) : StepsOk c (turnM ss) := by
  refine ⟨fun s m => ?_, by rw [cols_turn]; exact h.2.1, by unfold turnM; rw [List.length_map]; exact h.2.2⟩
  have m1 : s.1 ∈ (turnM ss).map (·.1) := List.mem_map.mpr ⟨s, m, rfl⟩
  rw [cols_turn] at m1
  obtain ⟨t, ht, e⟩ := List.mem_map.mp m1
  rw [← e]
  exact h.1 t ht
theorem near_ok {c : Int} {ix ss : List Stp} {sz mo : Nat} (h : StepsOk c ix) (hss : ss = (ix.take (sz + mo)).drop sz ∨ ss = turnM ((ix.take (sz + mo)).drop sz))
    (hne : ¬ (srt ((ix.take sz).map (·.1)) = [] ∧ (ix.take (sz + mo)).drop sz = [])) : LkOk c (srt ((ix.take sz).map (·.1)), ss) := by
  have s1 : (ix.take sz).Sublist ix := List.take_sublist ..
  have s2 : ((ix.take (sz + mo)).drop sz).Sublist (ix.drop sz) := by
    rw [List.drop_take]
    exact List.take_sublist ..
  have s3 : ((ix.take (sz + mo)).drop sz).Sublist ix := s2.trans (List.drop_sublist ..)
  have o1 := stepsOk_sub h s1
  have o3 := stepsOk_sub h s3
  have hm : ss.map (·.1) = ((ix.take (sz + mo)).drop sz).map (·.1) := by
    rcases hss with e | e
    · rw [e]
    · rw [e, cols_turn]
  refine ⟨⟨fun x m => ?_, srt_rise o1.2.1, by rw [srt_len, List.length_map]; exact o1.2.2⟩, ?_, fun s m z => ?_, fun z => hne ⟨z.1, ?_⟩⟩
  · obtain ⟨t, ht, e⟩ := List.mem_map.mp ((srt_perm _).mem_iff.mp m)
    rw [← e]
    exact o1.1 t ht
  · rcases hss with e | e
    · rw [e]
      exact o3
    · rw [e]
      exact stepsOk_turn o3
  · have z1 : s.1 ∈ (ix.take sz).map (·.1) := (srt_perm _).mem_iff.mp z
    have z2 : s.1 ∈ (ix.drop sz).map (·.1) := by
      have : s.1 ∈ ss.map (·.1) := List.mem_map.mpr ⟨s, m, rfl⟩
      rw [hm] at this
      exact (s2.map _).subset this
    have hn := h.2.1
    rw [← List.take_append_drop sz ix, List.map_append] at hn
    exact (List.nodup_append.mp hn).2.2 _ z1 _ z2 rfl
  · have z2 : ss = [] := z.2
    rw [z2] at hm
    exact List.map_eq_nil_iff.mp hm.symm
theorem cut_mid (ix : List Stp) (i m : Nat) (h : i + m ≤ ix.length) : cutO (encSteps ix) (some (i : Int)) (some ((i : Int) + (m : Int))) = encSteps ((ix.take (i + m)).drop i) := by
  rw [show (i : Int) + (m : Int) = ((i + m : Nat) : Int) by omega]
  show PyData.tuple (cutD (ix.map encStep) (some (i : Int)) (some ((i + m : Nat) : Int))) = _
  rw [cutD_mid _ _ _ (by rw [List.length_map]; exact h), ← List.map_take, ← List.map_drop]
  rfl
theorem cut_left (ix : List Stp) (k : Nat) : cutO (encSteps ix) none (some (k : Int)) = encSteps (ix.take k) := by
  show PyData.tuple (cutD (ix.map encStep) none (some (k : Int))) = _
  rw [cutD_take, ← List.map_take]
  rfl
section
variable {P : Program} {w : World} {K : PySem.W.Frag} {mg : Str → Option Value} {base : Heap}
def isNear : List PyData → Prop := fun ds => ∃ (c : Nat) (ix : List Stp), ds = [.int (c : Int), encSteps ix] ∧ 1 ≤ c ∧ c ≤ 8 ∧ IxOk c ix
def atNear : List PyData → PyData → Prop := fun ds r => ∃ (c : Nat) (ix : List Stp) (k : Lk), ds = [.int (c : Int), encSteps ix] ∧ r = encLk k ∧ LkOk c k
theorem frz_num {r : PyData} {m : Nat} (h : ∃ v : Nat, v < m ∧ r = .int (v : Int)) : frz r = true := by
  obtain ⟨v, _, rfl⟩ := h
  rfl
theorem cal__law_near (T : Fx K mg) (D : Def K mg "_law_near" s__law_near) (C__law_draw : C__law_drawT P w K mg base) (C__law_lookup : C__law_lookupT P w K mg base) (C__law_turned : C__law_turnedT P w K mg base) : Cal P w K mg base 5 "_law_near" ["_law_state", "_law_columns", "_law_index_here"] (spS K isNear 50 atNear) := by
  have S := sc__law_near
  refine mk_calS D S (fun ds h => by obtain ⟨a, b, rfl, _⟩ := h; rfl) (fun ds h d m => by
    obtain ⟨a, b, rfl, _⟩ := h
    rcases List.mem_cons.mp m with rfl | m
    · rfl
    · obtain rfl := List.mem_singleton.mp m
      exact frz_steps _) (fun _ _ _ _ _ _ us hl => match us, hl with | [_, _, _], _ => rfl) fun f cdv A outer s H E hr => ?_
  have hu64 := hu64_of hr
  refine ⟨_, (pss_cons (ps_set (i := 3) S.nd rfl (by first | exact Or.inl rfl | exact Or.inr rfl) (pe_cal C__law_draw hr (by decide) rfl (pa_cons (pv 0) (pa_cons (pe_op (op_plusK K) (pe_callB (call_lenK K) rfl T.len (by decide +kernel) (pa_cons (pv 2) pa_nil)) pe_int) pa_nil))))
        (pss_cons (ps_set (i := 4) S.nd rfl (by first | exact Or.inl rfl | exact Or.inr rfl) (pe_cal C__law_draw hr (by decide) rfl (pa_cons (pv 0) (pa_cons (pe_op (op_plusK K) (pe_op op_sub (pe_callB (call_lenK K) rfl T.len (by decide +kernel) (pa_cons (pv 2) pa_nil)) (pv 3)) pe_int) pa_nil))))
        (pss_cons (ps_set (i := 5) S.nd rfl (by first | exact Or.inl rfl | exact Or.inr rfl) (pe_slice (sl_uK K) (pv 2) (po_some (pv 3)) (po_some (pe_op (op_plusK K) (pv 3) (pv 4)))))
        (pss_cons (ps_set (i := 6) S.nd rfl (by first | exact Or.inl rfl | exact Or.inr rfl) (pe_callTy (call_tupK K) rfl T.tuple (by decide +kernel) (pa_cons (pe_callB (cr_sortedK K) rfl T.sorted (by decide +kernel) (pa_cons (pe_lc (own := [("_law_step", 7)]) (g := gName 7) rfl S.nd (pi_seqK K (pe_slice (sl_uK K) (pv 2) po_none (po_some (pv 3)))) (blkOk_by (own := [("_law_step", 7)]) (N := N__law_near) (sc := defScope s__law_near) (by decide +kernel)) (fun _ _ _ _ _ => (pg_name (i := 7) S.nd rfl (by first | exact Or.inl rfl | exact Or.inr rfl))) (fun _ _ _ _ _ => pts_nil) (fun _ _ _ _ _ => (pe_ix (ix_uK K) (pv 7) pe_int (fun _ _ => rfl)))) pa_nil)) pa_nil)))
        (pss_cons (ps_if (PW.pt (pw_or (PW.pt (pw_and (pt_cmpR (op_eqK K hu64) (pv 6) (pe_tupF pa_nil) (nomark _)) (pw_and1 (pt_cmpR (op_eqK K hu64) (pv 5) (pe_tupF pa_nil) (nomark _))))) (pw_or1 (pt_cmpR (op_eqK K hu64) (pe_cal C__law_draw hr (by decide) rfl (pa_cons (pv 0) (pa_cons pe_int pa_nil))) pe_int (nomark _))))) (pss_one (ps_ret (pe_cal C__law_lookup hr (by decide) rfl (pa_cons (pv 0) (pa_cons (pv 1) pa_nil))))) pss_nil)
        (pss_one (ps_ret (pe_tupF (pa_cons (pv 6) (pa_cons (pe_ifExp (pt_cmpR (op_eqK K hu64) (pe_cal C__law_draw hr (by decide) rfl (pa_cons (pv 0) (pa_cons pe_int pa_nil))) pe_int (nomark _)) (pv 5) (pe_cal C__law_turned hr (by decide) rfl (pa_cons (pv 5) pa_nil))) pa_nil)))))))))), fun a c l ds h => ?_⟩
  obtain ⟨n, ix, rfl, h1, h2, hix⟩ := h
  have hl := hix.1.2.2
  refine (sr_seq (sn_set (se_draw (S := ⟨0, a, c, l⟩) (m := ix.length + 1) ((de_op (de_cb (da_cons (de_var rfl) da_nil) (c_len rfl)) de_int r_plusI).is (by rw [List.length_map]; rfl)) (by omega) (by omega)) (show (3 : Nat) ≠ 0 by decide) fun r h => frz_num h) fun ρ' g => ?_).w (k := 1 + 49) (by decide) fun r h => h
  obtain ⟨_, ⟨sz, hsz, rfl⟩, rfl⟩ := g
  refine (sr_seq (sn_set (se_draw (S := ⟨0, a, c, l⟩) (m := ix.length - sz + 1) ((de_op (de_op (de_cb (da_cons (de_var rfl) da_nil) (c_len rfl)) (de_var rfl) (r_I0 fun _ => .int _)) de_int r_plusI).is ?_) (by omega) (by omega)) (show (4 : Nat) ≠ 0 by decide) fun r h => frz_num h) fun ρ' g => ?_).w (k := 1 + 48) (by decide) fun r h => h
  · rw [List.length_map]
    show PyData.int ((ix.length : Int) - (sz : Int) + 1) = .int ((ix.length - sz + 1 : Nat) : Int)
    congr 1
    omega
  obtain ⟨_, ⟨mo, hmo, rfl⟩, rfl⟩ := g
  refine (sr_seq (sn_set (R := (· = encSteps ((ix.take (sz + mo)).drop sz))) (se_pure ((de_sl (de_var rfl) rfl (do_some (de_var rfl)) (do_some (de_op (de_var rfl) (de_var rfl) r_plusI))).is (cut_mid ix sz mo (by omega)))) (show (5 : Nat) ≠ 0 by decide) fun r h => by subst h; exact frz_steps _) fun ρ' g => ?_).w (k := 0 + 48) (by decide) fun r h => h
  obtain ⟨_, rfl, rfl⟩ := g
  refine (sr_seq (sn_set (R := (· = encLot (srt ((ix.take sz).map (·.1))))) (se_pure (sorted_one ((de_map (items := ix.take sz) (enc := encStep) _ (fun s => .int s.1) (di_seq ((de_sl (de_var rfl) rfl do_none (do_some (de_var rfl))).is (cut_left ix sz)) rfl) (by rw [List.length_take]; omega)
      (fun a _ => dg_name (by decide)) (fun a m => de_op (de_var rfl) de_int (r_ix (j := 0) rfl rfl rfl)) (fun _ => rfl)).is (by rw [List.map_map]; rfl)) (by rw [List.length_map, List.length_take]; omega))) (show (6 : Nat) ≠ 0 by decide) fun r h => by subst h; exact frz_lot _) fun ρ' g => ?_).w (k := 0 + 48) (by decide) fun r h => h
  obtain ⟨_, rfl, rfl⟩ := g
  refine (sr_guard (k1 := 1) (k2 := 47) (sb_or (dt_and (a := decide (srt ((ix.take sz).map (·.1)) = [])) (b := decide ((ix.take (sz + mo)).drop sz = [])) (dt_test ((de_op (de_var rfl) (de_tup da_nil (by decide)) (r_eqD (sh_lot _) sh_tnil)).is (by rw [enil_lot])))
      fun _ => dt_test ((de_op (de_var rfl) (de_tup da_nil (by decide)) (r_eqD (sh_steps _) sh_tnil)).is (by rw [enil_steps]))) fun _ => sb_draw0 (S := ⟨0, a, c, l⟩) (m := 6) de_int (by decide) (by decide)) (fun _ => ?_) fun z => ?_).w (by decide) fun r h => h
  · refine (se_call (S := ⟨0, a, c, l⟩) (sa_pure (da_cons (de_var rfl) da_nil)) fun ds e => ?_).w (by decide) fun r h => h
    subst e
    refine ⟨⟨n, rfl, h1, h2⟩, fun r h => ?_⟩
    obtain ⟨n', k, e, rfl, hk⟩ := h
    have en : (n : Int) = (n' : Int) := PyData.int.inj (List.cons.inj e).1
    exact ⟨n, ix, k, rfl, rfl, en ▸ hk⟩
  · have hne : ¬ (srt ((ix.take sz).map (·.1)) = [] ∧ (ix.take (sz + mo)).drop sz = []) := by
      rintro ⟨e1, e2⟩
      rcases z with ⟨_, z⟩ | ⟨z, _⟩
      · cases z
      · rw [decide_eq_true e1, decide_eq_true e2] at z
        cases z
    have hdl : ((ix.take (sz + mo)).drop sz).length ≤ 8 := by
      rw [List.length_drop, List.length_take]
      omega
    refine (sr_ret (se_tup (sa_tail (de_var rfl) (frz_lot _) (sa_head (se_if (R := fun r => ∃ ss, r = encSteps ss ∧ (ss = (ix.take (sz + mo)).drop sz ∨ ss = turnM ((ix.take (sz + mo)).drop sz))) (k2 := 0) (sb_draw0 (S := ⟨0, a, c, l⟩) (m := 2) de_int (by decide) (by decide))
      (fun _ => (se_pure (de_var rfl)).w (by decide) fun r e => ⟨_, e, .inl rfl⟩) (fun _ => (se_pure (de_call (da_cons (de_var rfl) da_nil) ⟨_, rfl, hdl, rfl⟩)).w (by decide) fun r e => ⟨_, e, .inr rfl⟩)) da_nil)) fun ds h => ?_)).w (by decide) fun r h => ?_
    · obtain ⟨ys, ⟨x, _, rfl⟩, rfl⟩ := h
      exact (show 2 ≤ 1000 by decide)
    · obtain ⟨ds, ⟨ys, ⟨x, ⟨ss, rfl, hss⟩, rfl⟩, rfl⟩, rfl⟩ := h
      exact ⟨n, ix, (srt ((ix.take sz).map (·.1)), ss), rfl, rfl, near_ok hix.1 hss hne⟩
abbrev C__law_nearT (P : Program) (w : World) (K : PySem.W.Frag) (mg : Str → Option Value) (base : Heap) := Cal P w K mg base 5 "_law_near" ["_law_state", "_law_columns", "_law_index_here"] (spS K isNear 50 atNear)
end
end K3
set_option Elab.async false
set_option linter.all false
set_option maxRecDepth 100000
set_option maxHeartbeats 4000000
/-! A demand drawn. -/
namespace K3
open PySem PySem.Spec PyProof.Rows L2
section
variable {P : Program} {w : World} {K : PySem.W.Frag} {mg : Str → Option Value} {base : Heap}
theorem Nw.put {S : Sx} {ρ : Rho} {σ : L2.St} {H : Hp} {n : Nat} (h : Nw K S ρ σ H n) {i : Nat} {o : Option V} {s : Sl} (hi : i ≠ S.i) (k : SlOk K H o s) (f : SlF s) : Nw K S (ρ.set i s) (σ.set i o) H n :=
  ⟨h.env.set i k, h.fz.set f, by rw [List.getElem?_set_ne hi]; exact h.slot, h.st⟩
theorem Nw.forget {S : Sx} {ρ : Rho} {σ : L2.St} {H : Hp} {n : Nat} (h : Nw K S ρ σ H n) (i : Nat) : Nw K S (ρ.set i .no) σ H n := ⟨h.env.forget i, h.fz.set trivial, h.slot, h.st⟩
theorem keys_st {H H' : Hp} {xs : List (Lk × Addr)} (h : KeysN K H xs) (e : SameT H H') : KeysN K H' xs := fun x m => dp_st e (h x m) (frz_lk _)
theorem putN_mem {xs : List (Lk × Addr)} {l : Lk} {q : Addr} {x : Lk × Addr} (h : x ∈ putN xs l q) : x ∈ xs ∨ x = (l, q) := by
  unfold putN at h
  split at h
  · exact .inl h
  · exact (List.mem_append.mp h).imp id List.mem_singleton.mp
theorem putN_len (xs : List (Lk × Addr)) (l : Lk) (q : Addr) : (putN xs l q).length ≤ xs.length + 1 := by
  unfold putN
  split
  · omega
  · rw [List.length_append]
    exact Nat.le_refl _
theorem putN_ne (xs : List (Lk × Addr)) (l : Lk) (q : Addr) : putN xs l q ≠ [] := by
  unfold putN
  split
  · rename_i h
    rintro rfl
    cases h
  · simp
theorem putN_nodup {xs : List (Lk × Addr)} (h : (xs.map (·.1)).Nodup) (l : Lk) (q : Addr) : ((putN xs l q).map (·.1)).Nodup := by
  unfold putN
  split
  · exact h
  · rename_i hn
    rw [List.map_append]
    refine List.nodup_append.mpr ⟨h, List.pairwise_singleton _ _, fun a ha b hb e => hn ?_⟩
    obtain rfl := List.mem_singleton.mp hb
    exact e ▸ ha
theorem dem_ok {c : Nat} {xs ys : List (Lk × Addr)} (h1 : 1 ≤ c) (h2 : c ≤ 8) (hl : xs.length ≤ 8) (hne : xs ≠ []) (hok : ∀ x ∈ xs, LkOk c x.1) (hn : (xs.map (·.1)).Nodup) (hp : ys.Perm xs) (hs : ys.Pairwise fun a b => ltLk b.1 a.1 = false) : DemOk c (ys.map (·.1)) := by
  have hyl := hp.length_eq
  have hyn : (ys.map (·.1)).Nodup := (hp.map _).nodup_iff.mpr hn
  have hx : 0 < xs.length := List.length_pos_iff.mpr hne
  refine ⟨by omega, by omega, by rw [List.length_map]; omega, by rw [List.length_map]; omega, fun l m => ?_, fun i a b ha hb => ?_⟩
  · obtain ⟨y, hy, rfl⟩ := List.mem_map.mp m
    exact hok y (hp.mem_iff.mp hy)
  · have hs' : (ys.map (·.1)).Pairwise fun a b => ltLk b a = false := List.pairwise_map.mpr hs
    obtain ⟨hi, rfl⟩ := List.getElem?_eq_some_iff.mp ha
    obtain ⟨hj, rfl⟩ := List.getElem?_eq_some_iff.mp hb
    have g1 := List.pairwise_iff_getElem.mp hs' i (i + 1) hi hj (Nat.lt_succ_self i)
    have g2 := List.pairwise_iff_getElem.mp hyn i (i + 1) hi hj (Nat.lt_succ_self i)
    exact lt_of_le_ne g1 g2
theorem dq_refs {H : Hp} : ∀ {ys : List (Lk × Addr)}, KeysN K H ys → DqAll K H (ys.map fun y => V.ref y.2) ((ys.map (·.1)).map encLk)
  | [], _ => .nil
  | y :: ys, h => .cons (h y (List.mem_cons_self ..)) (dq_refs fun x m => h x (List.mem_cons_of_mem _ m))
def rhoD (c most : Nat) (ix : List Stp) : Rho := [.no, .d (.int (c : Int)), .d (.int (most : Int)), .no, .d (encSteps ix), .no]
def isDem : List PyData → Prop := fun ds => ∃ c most : Nat, ds = [.int (c : Int), .int (most : Int)] ∧ 1 ≤ c ∧ c ≤ 8 ∧ 1 ≤ most ∧ most ≤ 8
def atDem : List PyData → PyData → Prop := fun ds r => ∃ (c most : Nat) (ls : List Lk), ds = [.int (c : Int), .int (most : Int)] ∧ r = encDem c ls ∧ DemOk c ls
/-- an index among c columns -/
theorem se_index {S : Sx} {E : XK} {ρ : Rho} {te : TE} {c : Nat} (h : DE K te ρ (.int (c : Int))) (h1 : 1 ≤ c) (h2 : c ≤ 8) : SE K S (tCall (spS K isCols 25 atIndex) [] E (tCons (tVar S.i) (tCons te tNil))) ρ 25 (fun r => ∃ ix : List Stp, r = encSteps ix ∧ IxOk c ix) :=
  (se_call (sa_pure (da_cons h da_nil)) fun ds e => by
    subst e
    refine ⟨⟨c, rfl, h1, h2⟩, fun r h => ?_⟩
    obtain ⟨c', ix, e, rfl, hk⟩ := h
    have en : (c : Int) = (c' : Int) := PyData.int.inj (List.cons.inj e).1
    exact ⟨ix, rfl, en ▸ hk⟩).w (by decide) fun r h => h
/-- what stands before turn j of the demand's loop -/
def DemInv (P : Program) (w : World) (K : PySem.W.Frag) (a c l d : Addr) (H : Hp) (n cc most j : Nat) (σ' : L2.St) (H' : Hp) : Prop :=
  σ'[3]? = some (some (.ref d)) ∧ ∃ (n' : Nat) (ix : List Stp) (xs : List (Lk × Addr)), n' ≤ n + 26 + 76 * j ∧ EvS a l H H' ∧ Nw K ⟨0, a, c, l⟩ (rhoD cc most ix) σ' H' n' ∧ IxOk cc ix ∧
    H' d = some (nestO P w d xs) ∧ KeysN K H' xs ∧ (∀ x ∈ xs, LkOk cc x.1) ∧ (xs.map (·.1)).Nodup ∧ xs.length ≤ j ∧ (0 < j → xs ≠ [])
theorem dem_turn {a c l d : Addr} {H : Hp} {n cc most j : Nat} (nd : H d = none) (da : d ≠ a) (dl : d ≠ l) (dc : d ≠ c) (c1 : 1 ≤ cc) (c2 : cc ≤ 8) (hj : j < 8) (hn : n + 700 ≤ BIG) {D : Ends} (hD : ∀ σ'' H'', DemInv P w K a c l d H n cc most (j + 1) σ'' H'' → D.nx σ'' H'')
    {H4 : Hp} {xs : List (Lk × Addr)} (ev : EvS a l H H4) (hdj : H4 d = some (nestO P w d xs)) (hkeys : KeysN K H4 xs) (hoks : ∀ x ∈ xs, LkOk cc x.1) (hnod : (xs.map (·.1)).Nodup) (hlen : xs.length ≤ j)
    {σ5 : L2.St} {H5 : Hp} {n5 : Nat} {ix5 : List Stp} (hn5 : n5 ≤ n + 26 + 76 * j + 26) (ev5 : EvS a l H4 H5) (sT5 : SameT H4 H5) (nw5 : Nw K ⟨0, a, c, l⟩ (rhoD cc most ix5) σ5 H5 n5) (hix5 : IxOk cc ix5) (w3 : σ5[3]? = some (some (.ref d))) :
    tAsg (tC (.bl true)) (gSub (tVar 3) (tCall (spS K isNear 50 atNear) [] E0 (tCons (tVar 0) (tCons (tVar 1) (tCons (tVar 4) tNil)))) (rSetN P w K)) D σ5 H5 := by
  refine ⟨_, w3, ?_⟩
  refine se_call (S := ⟨0, a, c, l⟩) (E := E0) (pre := isNear) (cost := 50) (post := atNear) (R' := fun r => ∃ k : Lk, r = encLk k ∧ LkOk cc k) (sa_pure (ds := [.int (cc : Int), encSteps ix5]) (da_cons (de_var rfl) (da_cons (de_var rfl) da_nil))) (fun ds e => ?_) σ5 H5 _ n5 (by omega) nw5 fun v6 H6 r6 n6 hn6 ev6 st6 g6 dv6 => ?_
  · subst e
    refine ⟨⟨cc, ix5, rfl, c1, c2, hix5⟩, fun r h => ?_⟩
    obtain ⟨c', ix', k, e, rfl, hk⟩ := h
    have en : (cc : Int) = (c' : Int) := PyData.int.inj (List.cons.inj e).1
    exact ⟨k, rfl, en ▸ hk⟩
  obtain ⟨k, rfl, hk⟩ := g6
  have nw6 := nw5.ev ev6 st6
  have hd6 := ev6 d _ da dl (ev5 d _ da dl hdj)
  have sT6 : SameT H4 H6 := sT5.trans (nw5.st.samT ev6)
  have hkeys6 := keys_st hkeys sT6
  obtain ⟨qa, _, _, rfl, _, _, _⟩ := dv6.getT
  refine ⟨d, xs, k, qa, rfl, hd6, rfl, rfl, hkeys6, dv6, by omega, hD _ _ ?_⟩
  have sT7 : SameT H6 (upd H6 d (nestO P w d (putN xs k qa))) := .wr hd6 (by intro _ z; cases z) (by intro _ _ z; cases z)
  have hl1 := putN_len xs k qa
  refine ⟨w3, n6, ix5, putN xs k qa, by omega, fun b o x y z => ?_, ⟨nw6.env.st sT7 nw6.fz, nw6.fz, nw6.slot, ?_⟩, hix5, upd_same, fun x m => ?_, fun x m => ?_, putN_nodup hnod k qa, by omega, fun _ => putN_ne xs k qa⟩
  · rw [upd_ne (by rintro rfl; rw [nd] at z; cases z)]
    exact ev6 b o x y (ev5 b o x y (ev b o x y z))
  · obtain ⟨g1, g2, ks, ls, g3, g4, g5⟩ := st6
    exact ⟨by rw [upd_ne da.symm]; exact g1, g2, ks, ls, by rw [upd_ne dc.symm]; exact g3, by rw [upd_ne dl.symm]; exact g4, g5⟩
  · rcases putN_mem m with m | e
    · exact dp_st sT7 (hkeys6 x m) (frz_lk _)
    · subst e
      exact dp_st sT7 dv6 (frz_lk _)
  · rcases putN_mem m with m | e
    · exact hoks x m
    · subst e
      exact hk
theorem cal__law_demand (T : Fx K mg) (D : Def K mg "_law_demand" s__law_demand) (C__law_draw : C__law_drawT P w K mg base) (C__law_index : C__law_indexT P w K mg base) (C__law_near : C__law_nearT P w K mg base) : Cal P w K mg base 6 "_law_demand" ["_law_state", "_law_columns", "_law_most"] (spS K isDem 700 atDem) := by
  have S := sc__law_demand
  refine mk_calR D S (fun vs H Q E h => by obtain ⟨a, c, l, n, us, ds, rfl, h1, _, ⟨m, n, rfl, _⟩, _⟩ := h; rw [List.length_cons, h1.len]; rfl) (fun _ _ _ _ _ _ us hl => match us, hl with | [_, _, _], _ => rfl) fun f cdv A outer s H E hr => ?_
  have hu64 := hu64_of hr
  have hu100 := hu100_of hr
  refine ⟨_, (pss_cons (ps_par (i := 3) (j := 4) rfl S.nd rfl rfl (by decide) rfl rfl (pa_cons pe_dnewN (pa_cons (pe_cal C__law_index hr (by decide) rfl (pa_cons (pv 0) (pa_cons (pv 1) pa_nil))) pa_nil)) rfl)
        (pss_cons (ps_for PassesOwn.never rfl (pi_range1 rfl T.range (pa_cons (pe_op (op_plusK K) pe_int (pe_cal C__law_draw hr (by decide) rfl (pa_cons (pv 0) (pa_cons (pv 2) pa_nil)))) pa_nil)) (pg_name (i := 5) S.nd rfl (by first | exact Or.inl rfl | exact Or.inr rfl)) (pss_cons (ps_if (pt_cmpR (op_eqK K hu64) (pe_cal C__law_draw hr (by decide) rfl (pa_cons (pv 0) (pa_cons pe_int pa_nil))) pe_int (nomark _)) (pss_one (ps_set (i := 4) S.nd rfl (by first | exact Or.inl rfl | exact Or.inr rfl) (pe_cal C__law_index hr (by decide) rfl (pa_cons (pv 0) (pa_cons (pv 1) pa_nil))))) pss_nil)
          (pss_one (ps_asg pe_bl (pg_sub (pv 3) (pe_cal C__law_near hr (by decide) rfl (pa_cons (pv 0) (pa_cons (pv 1) (pa_cons (pv 4) pa_nil)))) (set_nested hu64))))))
        (pss_one (ps_ret (pe_tupF (pa_cons (pv 1) (pa_cons (pe_callTy (call_tupK K) rfl T.tuple (by decide +kernel) (pa_cons (pe_callB (cr_sortedN rfl hu100) rfl T.sorted (by decide +kernel) (pa_cons (pv 3) pa_nil)) pa_nil)) pa_nil))))))), fun D vs H E h => ?_⟩
  obtain ⟨a, c, l, n, us, ds, rfl, hd, st, ⟨cc, most, rfl, c1, c2, m1, m2⟩, hn, q⟩ := h
  have nw0 : Nw K ⟨0, a, c, l⟩ _ (L2.start N__law_demand (.ref a :: us)) H n := start_nw hd (fun d m => by
    rcases List.mem_cons.mp m with rfl | m
    · rfl
    · obtain rfl := List.mem_singleton.mp m
      rfl) st
  -- the dict, the first index
  refine fun d nd => ?_
  have da : d ≠ a := by
    rintro rfl
    rw [st.1] at nd
    cases nd
  have dl : d ≠ l := by
    rintro rfl
    obtain ⟨_, _, _, _, _, z, _⟩ := st
    rw [z] at nd
    cases nd
  have dc : d ≠ c := by
    rintro rfl
    obtain ⟨_, _, _, _, z, _⟩ := st
    rw [z] at nd
    cases nd
  have s1 := same_new (o := nestO P w d []) nd
  refine se_index (S := ⟨0, a, c, l⟩) (E := E0) (te := tVar 1) (c := cc) (de_var rfl) c1 c2 _ _ _ n (by omega) (nw0.same s1) fun v H2 r n2 hn2 ev2 st2 g dv => ?_
  obtain ⟨ix, rfl, hix⟩ := g
  refine ⟨_, _, rfl, ?_⟩
  have hd2 : H2 d = some (nestO P w d []) := ev2 d _ da dl upd_same
  have nw2 : Nw K ⟨0, a, c, l⟩ (rhoD cc most ix) (((L2.start N__law_demand (.ref a :: us)).set 3 (some (.ref d))).set 4 (some v)) H2 n2 :=
    (((nw0.same s1).ev ev2 st2).put (i := 3) (show (3 : Nat) ≠ 0 by decide) (o := some (.ref d)) (s := .no) trivial trivial).put (i := 4) (show (4 : Nat) ≠ 0 by decide) (s := .d (encSteps ix)) ⟨v, rfl, dv⟩ (frz_steps ix)
  have z3 : (((L2.start N__law_demand (.ref a :: us)).set 3 (some (.ref d))).set 4 (some v))[3]? = some (some (.ref d)) := by
    rw [List.getElem?_set_ne (by decide), List.getElem?_set_self (by rw [nw0.env.len]; exact (show 3 < 6 by decide))]
  have ev2' : EvS a l H H2 := (EvS.of s1).trans ev2
  show tSeq _ _ _ (((L2.start N__law_demand (.ref a :: us)).set 3 (some (.ref d))).set 4 (some v)) H2
  generalize ((L2.start N__law_demand (.ref a :: us)).set 3 (some (.ref d))).set 4 (some v) = σ2 at nw2 z3 ⊢
  -- how many turns
  refine se_opR (S := ⟨0, a, c, l⟩) (ta := tC (.int 1)) (r := rPlus K) (R' := fun r => ∃ k : Nat, 1 ≤ k ∧ k ≤ most ∧ r = .int (k : Int)) de_int rfl (se_draw (E := E0) (te := tVar 2) (m := most) (de_var rfl) m1 (by omega)) (fun y hy => ?_) σ2 H2 _ n2 (by omega) nw2 fun v3 H3 r3 n3 hn3 ev3 st3 g3 dv3 => ?_
  · obtain ⟨k, hk, rfl⟩ := hy
    exact ⟨_, r_plusI, k + 1, by omega, by omega, by congr 1; omega⟩
  obtain ⟨cnt, hc1, hc2, rfl⟩ := g3
  obtain rfl := dv3.getI
  have nw3 := nw2.ev ev3 st3
  have hd3 := ev3 d _ da dl hd2
  have cnt1 : ((cnt : Nat) : Int) < 2 ^ 62 := Int.lt_of_le_of_lt (show (cnt : Int) ≤ 8 by omega) (by decide)
  refine ⟨(cnt : Int), rfl, by omega, cnt1, ?_⟩
  refine ⟨fun j m σ' H' => m = cnt - j ∧ j ≤ cnt ∧ DemInv P w K a c l d H n cc most j σ' H',
    ⟨cnt, rfl, Nat.zero_le _, z3, n3, ix, [], by omega, ev2'.trans ev3, nw3, hix, hd3, (fun x m => nomatch m), (fun x m => nomatch m), List.nodup_nil, Nat.zero_le _, fun z => absurd z (Nat.lt_irrefl _)⟩, ?_⟩
  clear hd3 nw3 ev2' z3 nw2 hix st3 ev3 hn3 hn2 st2 ev2 hd2 dv nw0
  rintro j m σ' H' ⟨rfl, hj, z3, n', ix, xs, hn', ev, nw, hix, hdj, hkeys, hoks, hnod, hlen, hne⟩
  by_cases hlt : j < cnt
  · refine .inr ⟨?_, DemInv P w K a c l d H n cc most (j + 1), fun σ'' H'' z => ⟨cnt - (j + 1), by omega, rfl, hlt, z⟩, fun x H4 hy => ?_⟩
    · show j < ((cnt : Int)).toNat
      omega
    obtain ⟨rfl, rfl⟩ := hy
    have nw4 : Nw K ⟨0, a, c, l⟩ (rhoD cc most ix) (σ'.set 5 (some (.int (0 + (j : Int))))) H4 n' := nw.put (i := 5) (show (5 : Nat) ≠ 0 by decide) (s := .no) trivial trivial
    have y3 : (σ'.set 5 (some (.int (0 + (j : Int)))))[3]? = some (some (.ref d)) := by rw [List.getElem?_set_ne (by decide)]; exact z3
    show tSeq _ _ _ (σ'.set 5 (some (.int (0 + (j : Int))))) H4
    generalize σ'.set 5 (some (.int (0 + (j : Int)))) = σ4 at nw4 y3 ⊢
    clear nw z3
    refine sb_draw0 (S := ⟨0, a, c, l⟩) (E := E0) (m := 3) (d := 0) (te := tC (.int 3)) de_int (by decide) (by decide) σ4 H4 _ n' (by omega) nw4 fun b H5 n5 hn5 ev5 st5 _ => ?_
    have nw5 := nw4.ev ev5 st5
    cases b with
    | false => exact iteF (dem_turn nd da dl dc c1 c2 (by omega) hn (fun _ _ z => z) ev hdj hkeys hoks hnod hlen (by omega) ev5 (nw4.st.samT ev5) nw5 hix y3)
    | true =>
      refine iteT (se_index (S := ⟨0, a, c, l⟩) (E := E0) (te := tVar 1) (c := cc) (de_var rfl) c1 c2 σ4 H5 _ n5 (by omega) nw5 fun v6 H6 r6 n6 hn6 ev6 st6 g6 dv6 => ?_)
      obtain ⟨ix6, rfl, hix6⟩ := g6
      have nw6 : Nw K ⟨0, a, c, l⟩ (rhoD cc most ix6) (σ4.set 4 (some v6)) H6 n6 := (nw5.ev ev6 st6).put (i := 4) (show (4 : Nat) ≠ 0 by decide) (s := .d (encSteps ix6)) ⟨v6, rfl, dv6⟩ (frz_steps ix6)
      exact dem_turn nd da dl dc c1 c2 (by omega) hn (fun _ _ z => z) ev hdj hkeys hoks hnod hlen (by omega) (ev5.trans ev6) ((nw4.st.samT ev5).trans (nw5.st.samT ev6)) nw6 hix6 (by rw [List.getElem?_set_ne (by decide)]; exact y3)
  · have ej : j = cnt := by omega
    subst ej
    refine .inl ⟨?_, ?_⟩
    · show ((j : Int)).toNat ≤ j
      omega
    obtain ⟨vc, hvc, dvc⟩ := nw.env.get (i := 1) (x := .int (cc : Int)) rfl
    refine ⟨vc, hvc, _, z3, d, xs, rfl, hdj, hkeys, by omega, fun p ys np hp hs => ⟨p, ys.map fun y => .ref y.2, rfl, .of upd_same, fun t o no nt => ⟨sz_line (show 2 ≤ 1000 by decide), fun t2 o2 no2 nt2 => ?_⟩⟩⟩
    have s7 := same_new (o := .lst (ys.map fun y => V.ref y.2)) np
    have s8 := same_new (o := .frz o (.tup (ys.map fun y => V.ref y.2))) nt
    have s9 := same_new (o := .frz o2 (.tup [vc, .ref t])) nt2
    have sm := s7.trans (s8.trans s9)
    have hky : KeysN K H' ys := fun y m => hkeys y (hp.mem_iff.mp m)
    refine q _ _ (encDem cc (ys.map (·.1))) n' (by omega) (ev.trans (.of sm)) (nw.st.same sm) ⟨cc, most, _, rfl, rfl, dem_ok c1 c2 (by omega) (hne (by omega)) hoks hnod hp hs⟩
      (.tup upd_same no2 (.cons (dp_same sm dvc) (.cons (.tup (s9 _ _ upd_same) no (dpAll_same sm (dq_refs hky))) .nil)))
abbrev C__law_demandT (P : Program) (w : World) (K : PySem.W.Frag) (mg : Str → Option Value) (base : Heap) := Cal P w K mg base 6 "_law_demand" ["_law_state", "_law_columns", "_law_most"] (spS K isDem 700 atDem)
end
end K3
set_option Elab.async false
set_option linter.all false
set_option maxRecDepth 100000
set_option maxHeartbeats 4000000
/-! The state is made; the law. -/
namespace K3
open PySem PySem.Spec PyProof.Rows L2
/-! ### ways of written indexes, by computing -/
def insI (x : Int) : List Int → List Int
  | [] => [x]
  | y :: ys => if x ≤ y then x :: y :: ys else y :: insI x ys
def isort : List Int → List Int
  | [] => []
  | x :: xs => insI x (isort xs)
theorem insI_perm (x : Int) : ∀ ys : List Int, (insI x ys).Perm (x :: ys)
  | [] => List.Perm.refl _
  | y :: ys => by
    unfold insI
    split
    · exact List.Perm.refl _
    · exact ((insI_perm x ys).cons y).trans (List.Perm.swap _ _ _)
theorem insI_pair (x : Int) : ∀ ys : List Int, ys.Pairwise (· ≤ ·) → (insI x ys).Pairwise (· ≤ ·)
  | [], _ => List.pairwise_singleton _ _
  | y :: ys, h => by
    unfold insI
    have h' := List.pairwise_cons.mp h
    split
    · rename_i le
      exact List.pairwise_cons.mpr ⟨fun z m => (List.mem_cons.mp m).elim (fun e => e ▸ le) fun m => Int.le_trans le (h'.1 z m), h⟩
    · rename_i le
      refine List.pairwise_cons.mpr ⟨fun z m => ?_, insI_pair x ys h'.2⟩
      rcases List.mem_cons.mp ((insI_perm x ys).mem_iff.mp m) with e | m
      · omega
      · exact h'.1 z m
theorem isort_perm : ∀ xs : List Int, (isort xs).Perm xs
  | [] => List.Perm.refl _
  | x :: xs => (insI_perm x _).trans ((isort_perm xs).cons x)
theorem isort_pair : ∀ xs : List Int, (isort xs).Pairwise (· ≤ ·)
  | [] => List.Pairwise.nil
  | x :: xs => insI_pair x _ (isort_pair xs)
theorem srt_i (xs : List Int) : srt xs = isort xs := (srt_eq (isort_perm xs) (isort_pair xs)).symm
def setsJ (l : Lk) : List (List Int) := (List.range (l.2.length + 1)).map fun k => isort (l.1 ++ (colsM l.2).take k)
def begJ (ix : List Stp) : List (List Int) := (List.range (ix.length + 1)).map fun k => isort ((colsM ix).take k)
theorem setsM_j (l : Lk) : setsM l = setsJ l := by
  unfold setsM setsJ
  exact List.map_congr_left fun k _ => srt_i _
theorem begM_j (l : List Stp) : begM l = begJ l := by
  unfold begM begJ
  exact List.map_congr_left fun k _ => srt_i _
def wayJ (ix : List Stp) (l : Lk) : Option Bool := if ((setsJ l).all fun x => decide (x ∈ begJ ix)) = true then (if allIn ix l.2 = true then some true else if allIn ix (turnM l.2) = true then some false else none) else none
theorem wayM_j (ix : List Stp) (l : Lk) : wayM ix l = wayJ ix l := by
  rw [wayM_eq]
  unfold wayJ setsIn
  rw [setsM_j, begM_j]
def wideM : List Stp := (rgD 8).map fun x => (x, true)
def midM : List Stp := [(1, true), (0, false), (2, true)]
theorem way1 : wayM wideM ([0, 1, 2, 3, 4, 5], [(6, true), (7, true)]) = some true := by rw [wayM_j]; decide +kernel
theorem way2 : wayM wideM ([0, 1, 2, 3, 4, 5], turnM [(6, true), (7, true)]) = some false := by rw [wayM_j]; decide +kernel
theorem way3 : wayM midM ([1], [(0, true), (2, false)]) = some false := by rw [wayM_j]; decide +kernel
theorem way4 : wayM midM ([0, 1], []) = some true := by rw [wayM_j]; decide +kernel
theorem way5 : wayM midM ([1], [(0, true), (2, true)]) = none := by rw [wayM_j]; decide +kernel
theorem way6 : wayM midM ([0], []) = none := by rw [wayM_j]; decide +kernel
theorem ok_wide : IxOk 8 wideM := by unfold IxOk StepsOk; decide +kernel
theorem ok_mid : IxOk 3 midM := by unfold IxOk StepsOk; decide +kernel
theorem ok1 : LkOk 8 ([0, 1, 2, 3, 4, 5], [(6, true), (7, true)]) := by unfold LkOk LotOk StepsOk; decide +kernel
theorem ok2 : LkOk 8 ([0, 1, 2, 3, 4, 5], turnM [(6, true), (7, true)]) := by unfold LkOk LotOk StepsOk; decide +kernel
theorem ok3 : LkOk 3 ([1], [(0, true), (2, false)]) := by unfold LkOk LotOk StepsOk; decide +kernel
theorem ok4 : LkOk 3 ([0, 1], []) := by unfold LkOk LotOk StepsOk; decide +kernel
theorem ok5 : LkOk 3 ([1], [(0, true), (2, true)]) := by unfold LkOk LotOk StepsOk; decide +kernel
theorem ok6 : LkOk 3 ([0], []) := by unfold LkOk LotOk StepsOk; decide +kernel
section
variable {P : Program} {w : World} {K : PySem.W.Frag} {mg : Str → Option Value} {base : Heap}
/-! ### the state is made -/
/-- a comprehension's own list, new -/
theorem dl_map {α : Type} {ρ : Rho} {P : Hp → V → PyData → Prop} {vs : List Nat} {g : TG} {wi : TI} {te : TE} {items : List α} {enc : α → PyData} (ρ1 : α → Rho) (f : α → PyData) (hi : DI K P wi ρ (items.map enc)) (hz : items.length ≤ 1000)
    (hg : ∀ a ∈ items, DG K P vs g (enc a) (wipeR ρ vs) (ρ1 a)) (he : ∀ a ∈ items, DE K te (ρ1 a) (f a)) (hf : ∀ a, frz (f a) = true) (σ : L2.St) (H : Hp) (Q : VK) (e : EnvD K H σ ρ)
    (q : ∀ D H' acc, H D = none → Same H H' → H' D = some (.lst acc) → DqAll K H' acc (items.map f) → Q (.ref D) H') : tLc wi g tYes te vs σ H Q := hi σ H _ e fun J H1 s1 wk D nD => by
  have wl : (items.map enc).length = items.length := List.length_map ..
  refine ⟨fun i m H' => m = items.length - i ∧ i ≤ items.length ∧ Same H1 H' ∧ ∃ acc, H' D = some (.lst acc) ∧ DqAll K H' acc ((items.take i).map f),
    ⟨items.length, by omega, Nat.zero_le _, same_new nD, [], upd_same, .nil⟩, ?_⟩
  rintro i m H' ⟨rfl, hi', sm, acc, hD, hacc⟩
  by_cases hlt : i < items.length
  · refine .inr ⟨wk.goes i H' sm (by rw [wl]; exact hlt), fun H'' => Same H1 H'' ∧ ∃ acc, H'' D = some (.lst acc) ∧ DqAll K H'' acc ((items.take (i + 1)).map f),
      fun H'' n => ⟨items.length - (i + 1), by omega, rfl, hlt, n⟩, fun x H2 hy => ?_⟩
    have ha := List.getElem?_eq_getElem hlt
    have hm : items[i] ∈ items := List.getElem_mem hlt
    obtain ⟨s2, dx⟩ := wk.yields i H' x H2 (enc items[i]) sm (by rw [List.getElem?_map, ha]; rfl) hy
    have stk : items.take (i + 1) = items.take i ++ [items[i]] := by rw [List.take_add_one, ha]; rfl
    refine hg _ hm x (wipe σ vs) H2 _ dx ((e.same (s1.trans (sm.trans s2))).wipe vs) fun σ' H3 s3 e3 hw => ⟨by rw [hw, wipe_wipe], ?_⟩
    refine (show DT K tYes (ρ1 items[i]) true from fun σ H Q e q => q H (Same.refl H)) σ' H3 _ e3 fun H4 s4 => iteT (he _ hm σ' H4 _ (e3.same s4) fun y H5 s5 dy => ?_)
    have s15 : Same H' H5 := s2.trans (s3.trans (s4.trans s5))
    have hl : acc.length < sizeLine := by
      rw [hacc.len, List.length_map, List.length_take]
      exact Nat.lt_of_le_of_lt (Nat.le_trans (Nat.min_le_right _ _) hz) (by decide)
    have st : SameT H5 (upd H5 D (.lst (acc ++ [y]))) := .wr (s15 _ _ hD) (by intro _ z; cases z) (by intro _ _ z; cases z)
    refine ⟨acc, s15 _ _ hD, hl, same_mut (sm.trans s15) nD, acc ++ [y], upd_same, ?_⟩
    rw [stk, List.map_append]
    exact .app (dpAll_st st (dpAll_same s15 hacc) (frzAll_map f hf _)) (.cons (dp_st st dy (hf _)) .nil)
  · have ei : i = items.length := by omega
    subst ei
    rw [List.take_length] at hacc
    refine .inl ⟨wl ▸ wk.stops H' sm, q D H' acc ?_ (s1.trans sm) hD hacc⟩
    cases hH : H D with
    | none => rfl
    | some o =>
      rw [s1 _ _ hH] at nD
      cases nD
theorem tPairs_c {v : V} {tv : TE} {r : List (TE × TE)} {σ : L2.St} {H : Hp} {Q : List (V × V) → Hp → Prop} (h : tv σ H fun y H2 => tPairs r σ H2 fun ps H3 => Q ((v, y) :: ps) H3) : tPairs ((tC v, tv) :: r) σ H Q := h
theorem tPairs_k {v u : V} {r : List (TE × TE)} {σ : L2.St} {H : Hp} {Q : List (V × V) → Hp → Prop} (h : tPairs r σ H fun ps H3 => Q ((v, u) :: ps) H3) : tPairs ((tC v, tC u) :: r) σ H Q := h
def spBegin (K : PySem.W.Frag) : Sp := fun vs H Q _ => ∃ (b : Addr) (ns : List Int), vs = [.ref b] ∧ SqL K H b (ns.map V.int) ∧ ns.length ≤ 63 ∧ ∀ a c l H', Same H H' → StI a c l 0 H' → Q (.ref a) H'
theorem merge_st (c l : Addr) : mergeK [] (kvS c l 0) = kvS c l 0 := by rfl
theorem cal__law_begin (T : Fx K mg) (D : Def K mg "_law_begin" s__law_begin) : Cal P w K mg base 1 "_law_begin" ["_law_script"] (spBegin K) := by
  have S := sc__law_begin
  refine mk_calR D S (fun vs H Q E h => by obtain ⟨b, ns, rfl, _⟩ := h; rfl) (fun _ _ _ _ _ _ us hl => match us, hl with | [_], _ => rfl) fun f cdv A outer s H E hr => ?_
  have hu64 := hu64_of hr
  refine ⟨_, (pss_cons (ps_set (i := 1) S.nd rfl (by first | exact Or.inl rfl | exact Or.inr rfl) (pe_ifExp (pt_cmpR (op_neK K hu64) (pv 0) (pe_lst pa_nil) (nomark _)) (pe_callTy (call_listK K) rfl T.list (by decide +kernel) (pa_cons (pv 0) pa_nil)) (pe_lst (pa_cons pe_int pa_nil))))
        (pss_one (ps_ret (pe_disp (pps_cons pe_str (pv 1) (pps_cons pe_str (pe_lc (own := [("_law_cell", 2)]) (g := gName 2) rfl S.nd (pi_seqK K (pv 1)) (blkOk_by (own := [("_law_cell", 2)]) (N := N__law_begin) (sc := defScope s__law_begin) (by decide +kernel)) (fun _ _ _ _ _ => (pg_name (i := 2) S.nd rfl (by first | exact Or.inl rfl | exact Or.inr rfl))) (fun _ _ _ _ _ => pts_nil) (fun _ _ _ _ _ => (pe_ifExp (pt_cmpR (op_ge) (pv 2) (pe_op op_pow pe_int pe_int) (nomark _)) (pv 2) pe_int))) (pps_cons pe_str pe_int (pps_cons pe_str pe_int pps_nil)))) rfl rfl (fun z => by cases z) (by decide))))), fun D vs H E h => ?_⟩
  obtain ⟨b, ns, rfl, hb, hl, q⟩ := h
  have dl : Dq K H (.ref b) (.list (ns.map .int)) := .lst hb (DqAll.ofInts _)
  have e0 : EnvD K H (L2.start N__law_begin [.ref b]) [.d (.list (ns.map .int)), .no, .no] := EnvD.start (N := N__law_begin) (.cons dl .nil)
  -- what is done with the cells
  have fin : ∀ (p : Addr) (cs : List Int) (H1 : Hp), Same H H1 → H1 p = some (.lst (cs.map V.int)) → 1 ≤ cs.length → cs.length ≤ 63 → tRet (tDisp [(tC (.str "cells"), tVar 1), (tC (.str "lefts"), tLc (iSeq K (tVar 1)) (gName 2) tYes (tIf (tTest (tOp (rI0 fun i j => .bl (decide (j ≤ i))) (tVar 2) (tOp (rI CPow fun i j => .int (i ^ j.toNat)) (tC (.int 10)) (tC (.int 18))))) (tVar 2) (tC (.int 0))) [2]), (tC (.str "at"), tC (.int 0)), (tC (.str "room"), tC (.int 0))]) D ((L2.start N__law_begin [.ref b]).set 1 (some (.ref p))) H1 := by
    intro p cs H1 s1 hp h1 h2
    have e1 : EnvD K H1 ((L2.start N__law_begin [.ref b]).set 1 (some (.ref p))) [.no, .d (.list (cs.map .int)), .no] := ((e0.same s1).set 1 (s := .d (.list (cs.map .int))) ⟨_, rfl, .lst (.of hp) (DqAll.ofInts _)⟩).forget 0
    intro a na
    have s2 := same_new (o := .dK []) na
    have na' : H a = none := by
      cases hH : H a with
      | none => rfl
      | some o =>
        rw [s1 _ _ hH] at na
        cases na
    refine tPairs_c ⟨_, rfl, ?_⟩
    refine tPairs_c ?_
    refine dl_map (items := cs) (enc := .int) (fun x => ([.no, .d (.list (cs.map .int)), .no] : Rho).set 2 (.d (.int x))) (fun x => .int (if decide ((10 : Int) ^ 18 ≤ x) = true then x else 0)) (di_seq (de_var rfl) rfl) (by omega) (fun x _ => dg_name (List.mem_singleton.mpr rfl)) (fun x m => ?_) (fun _ => rfl) _ _ _ (e1.same s2) fun l H2 acc nl s3 hl3 hacc => ?_
    · refine (de_if (d := .int (if decide ((10 : Int) ^ 18 ≤ x) = true then x else 0)) (b := decide ((10 : Int) ^ 18 ≤ x)) (dt_test (de_op (de_var rfl) (de_op de_int de_int (r_I (show CPow 10 18 from ⟨by decide, by decide, by decide⟩) fun _ => .int _)) (r_I0 fun _ => .bl _))) (fun z => ?_) fun z => ?_)
      · rw [if_pos z]
        exact de_var rfl
      · rw [if_neg (by rw [z]; exact Bool.false_ne_true)]
        exact de_int
    · have hacc' := (show DqAll K H2 acc ((cs.map fun x => (if decide ((10 : Int) ^ 18 ≤ x) = true then x else 0)).map .int) by rw [List.map_map]; exact hacc).ints
      have hla : l ≠ a := by
        rintro rfl
        rw [upd_same] at nl
        cases nl
      have hpa : p ≠ a := by
        rintro rfl
        rw [hp] at na
        cases na
      have hpl : p ≠ l := by
        rintro rfl
        rw [s2 _ _ hp] at nl
        cases nl
      have sm : Same H H2 := s1.trans (s2.trans s3)
      refine tPairs_k (tPairs_k ?_)
      refine ⟨s3 _ _ upd_same, kvS p l 0, rfl, (show 4 ≤ 15 by decide), q a p l _ (same_mut sm na') ⟨by rw [upd_same, merge_st]; rfl, hpl, cs, _, by rw [upd_ne hpa]; exact s3 _ _ (s2 _ _ hp), by rw [upd_ne hla, hl3, hacc'], h1, h2, List.length_map ..⟩⟩
  -- the cells
  refine de_op (de_var rfl) (de_lst da_nil (by decide)) (r_neD (sh_ints ns) sh_lnil) _ H _ e0 fun v H1 s1 d1 => ⟨_, d1.getB, ?_⟩
  have hnil : PyData.eqv (.list (ns.map .int)) (.list []) = decide (ns = []) := eqv_ints ns []
  rw [hnil]
  cases ns with
  | nil => exact iteF ⟨sz_line (show 1 ≤ 1000 by decide), fun p np => fin p [0] _ (s1.trans (same_new np)) upd_same (by decide) (by decide)⟩
  | cons x xs =>
    refine iteT ⟨_, rfl, b, _, rfl, .inl (s1.seq hb), fun p np => fin p (x :: xs) _ (s1.trans (same_new np)) upd_same (by rw [List.length_cons]; omega) hl⟩
abbrev C__law_beginT (P : Program) (w : World) (K : PySem.W.Frag) (mg : Str → Option Value) (base : Heap) := Cal P w K mg base 1 "_law_begin" ["_law_script"] (spBegin K)
end
end K3
set_option Elab.async false
set_option linter.all false
set_option maxRecDepth 100000
set_option maxHeartbeats 4000000
/-! The law. -/
namespace K3
open PySem PySem.Spec PyProof.Rows L2
section
variable {P : Program} {w : World} {K : PySem.W.Frag} {mg : Str → Option Value} {base : Heap}
/-! ### loops over a range, the same slots before each turn -/
def forg (ρ : Rho) (is : List Nat) : Rho := is.foldl (fun r i => r.set i .no) ρ
theorem Nw.forg {S : Sx} {σ : L2.St} {H : Hp} {n : Nat} : ∀ (is : List Nat) {ρ : Rho}, Nw K S ρ σ H n → Nw K S (forg ρ is) σ H n
  | [], _, h => h
  | i :: is, _, h => Nw.forg is (h.forget i)
theorem sn_loop {S : Sx} {i m k : Nat} {tr : TA} {ts : TS} {ρ : Rho} (hi : i ≠ S.i) (hm : m ≤ 1000) (h : DA K tr ρ [.int (m : Int)]) (hb : ∀ j : Nat, j < m → SN K S ts (ρ.set i (.d (.int (j : Int)))) k (fun ρ' => ∃ is, forg ρ' is = ρ)) :
    SN K S (tFor (iRng1 tr) (gName i) ts) ρ (m * k) (· = ρ) := fun D σ H n hn e q => h σ H _ e.env fun vs H1 s1 d1 => by
  cases d1 with
  | cons h0 t0 =>
    cases t0
    cases h0
    have hm1 : ((m : Int)) < 2 ^ 62 := by
      have : (m : Int) ≤ 1000 := by omega
      exact Int.lt_of_le_of_lt this (by decide)
    refine ⟨(m : Int), rfl, by omega, hm1, ?_⟩
    have e1 := e.same s1
    refine ⟨fun j x σ' H' => x = m - j ∧ j ≤ m ∧ ∃ n' : Nat, n' ≤ n + j * k ∧ EvS S.a S.l H1 H' ∧ Nw K S ρ σ' H' n', ⟨m, rfl, Nat.zero_le _, n, by omega, .refl _, e1⟩, ?_⟩
    rintro j x σ' H' ⟨rfl, hj, n', hn', ev, nw⟩
    by_cases hlt : j < m
    · refine .inr ⟨?_, fun σ'' H'' => ∃ n' : Nat, n' ≤ n + (j + 1) * k ∧ EvS S.a S.l H1 H'' ∧ Nw K S ρ σ'' H'' n', fun σ'' H'' z => ⟨m - (j + 1), by omega, rfl, hlt, z⟩, fun x H2 hy => ?_⟩
      · show j < ((m : Int)).toNat
        omega
      · obtain ⟨rfl, rfl⟩ := hy
        have hjk : (j + 1) * k = j * k + k := Nat.succ_mul j k
        have hle : (j + 1) * k ≤ m * k := Nat.mul_le_mul_right k hlt
        have nw2 : Nw K S (ρ.set i (.d (.int (j : Int)))) (σ'.set i (some (.int (0 + (j : Int))))) H2 n' := nw.put hi ⟨_, rfl, by rw [Int.zero_add]; exact .int _⟩ rfl
        exact hb j hlt _ _ H2 n' (by omega) nw2 fun σ3 H3 ρ3 n3 hn3 ev3 g nw3 => by
          obtain ⟨is, hf⟩ := g
          exact ⟨n3, by omega, ev.trans ev3, hf ▸ nw3.forg is⟩
    · have ej : j = m := by omega
      subst ej
      refine .inl ⟨?_, q σ' H' ρ n' hn' ((EvS.of s1).trans ev) rfl nw⟩
      show ((j : Int)).toNat ≤ j
      omega
theorem SN.wk {S : Sx} {ts : TS} {ρ : Rho} {k k' : Nat} {G G' : Rho → Prop} (h : SN K S ts ρ k G) (hk : k ≤ k') (hG : ∀ r, G r → G' r) : SN K S ts ρ k' G' := fun D σ H n hn e q => h D σ H n (by omega) e fun σ' H' ρ' n' a b c d => q σ' H' ρ' n' (by omega) b (hG _ c) d
theorem SR.go {S : Sx} {t : TS} {ρ : Rho} {k n : Nat} {R : PyData → Prop} {D : Ends} {σ : L2.St} {H : Hp} (h : SR K S t ρ k R) (hn : n + k ≤ BIG) (nw : Nw K S ρ σ H n) (q : ∀ v H' r n', n' ≤ n + k → EvS S.a S.l H H' → StI S.a S.c S.l n' H' → R r → Dq K H' v r → D.rt v H') : t D σ H := h D σ H n hn nw q
theorem sb_notT {S : Sx} {t : TT} {ρ : Rho} {k : Nat} (h : SB K S t ρ k (fun b => b = true)) : SB K S (tNot t) ρ k (fun b => b = false) := fun σ H Q n hn e q => h σ H _ n hn e fun b H1 n1 x y z g => q _ H1 n1 x y z (by subst g; rfl)
theorem ev_f : PyData.bool (!PyData.eqv (wayD (some true)) (.str "forward")) = .bool false := congrArg PyData.bool (show (!PyData.eqv (wayD (some true)) (.str "forward")) = false by decide +kernel)
theorem ev_b : PyData.bool (!PyData.eqv (wayD (some false)) (.str "backward")) = .bool false := congrArg PyData.bool (show (!PyData.eqv (wayD (some false)) (.str "backward")) = false by decide +kernel)
theorem sn_guard {S : Sx} {t : TT} {ts : TS} {ρ : Rho} {k : Nat} (h : SB K S t ρ k (fun b => b = false)) : SN K S (tIfS t ts tNext) ρ k (· = ρ) := fun D σ H n hn e q => h σ H _ n hn e fun b H1 n1 x y z g => by
  subst g
  exact iteF (q σ H1 ρ n1 x y rfl (e.ev y z))
def spLaw (K : PySem.W.Frag) : Sp := fun vs H Q _ => ∃ (b : Addr) (ns : List Int), vs = [.ref b] ∧ SqL K H b (ns.map V.int) ∧ ns.length ≤ 63 ∧ ∀ H', Q (.bl true) H'
def rho9 : Rho := List.replicate 9 .no
theorem frz_dem (c : Int) (ls : List Lk) : frz (encDem c ls) = true := by
  show (true && (frz (encLks ls) && true)) = true
  rw [frz_lks]
  rfl
/-- a promise of a function that is known, by its body -/
theorem mk_okR {x : Str} {st : Stmt} {N ps : List Str} {k : Nat} {sp : Sp} {f : Addr} {fd : FuncData} (F : FunD K x x (defArgs st) (defBody st) (defScope st) [] [] f fd) (S : FnScope N ps (defScope st)) (len : ∀ vs H Q E, sp vs H Q E → vs.length = ps.length)
    (body : ∀ (f : Addr) (cdv : Value) (A : Around) (outer : List Env) (s : Shared) (H : Hp) (E : XK), Room k (A.deeper (envOfC x (defScope st) s.heap.objs.size f cdv)) →
      ∃ t, PSs (cxOf CX0 P w K mg base N x (defScope st) f cdv A outer s H E).nox (defBody st) t ∧ ∀ (D : Ends) (vs : List V) (H : Hp) (E : XK), sp vs H D.rt E → t D (L2.start N vs) H) : FnOk P w K mg base CX0 (k + 1) f fd ps sp :=
  F.ok S (fun vs H Q E h => len vs H Q E h) fun cdv A outer s H vs Q E hr h => by
    obtain ⟨t, ht, hd⟩ := body f cdv A outer s H E hr
    exact ⟨t, ht.nox, hd _ vs H E h⟩
theorem ok_law (T : Fx K mg) {fa : Addr} {fd : FuncData} (F : FunD K "law" "law" (defArgs s_law) (defBody s_law) (defScope s_law) [] [] fa fd) (C__law_begin : C__law_beginT P w K mg base) (C__law_demand : C__law_demandT P w K mg base) (C__law_draw : C__law_drawT P w K mg base) (C__law_index : C__law_indexT P w K mg base)
    (C__law_index_right : C__law_index_rightT P w K mg base) (C_way_of : C_way_ofT P w K mg base) (C__law_turned : C__law_turnedT P w K mg base) : FnOk P w K mg base CX0 11 fa fd ["_law_script"] (spLaw K) := by
  have S := sc_law
  refine mk_okR F S (fun vs H Q E h => by obtain ⟨b, ns, rfl, _⟩ := h; rfl) fun f cdv A outer s H E hr => ?_
  have hu64 := hu64_of hr
  refine ⟨_, (pss_cons (ps_set (i := 1) S.nd rfl (by first | exact Or.inl rfl | exact Or.inr rfl) (pe_cal C__law_begin hr (by decide) rfl (pa_cons (pv 0) pa_nil)))
        (pss_cons (ps_for PassesOwn.never rfl (pi_range1 rfl T.range (pa_cons pe_int pa_nil)) (pg_name (i := 2) S.nd rfl (by first | exact Or.inl rfl | exact Or.inr rfl)) (pss_cons (ps_set (i := 3) S.nd rfl (by first | exact Or.inl rfl | exact Or.inr rfl) (pe_cal C__law_demand hr (by decide) rfl (pa_cons (pv 1) (pa_cons (pe_op (op_plusK K) pe_int (pe_cal C__law_draw hr (by decide) rfl (pa_cons (pv 1) (pa_cons pe_int pa_nil)))) (pa_cons pe_int pa_nil)))))
          (pss_one (ps_for PassesOwn.never rfl (pi_range1 rfl T.range (pa_cons pe_int pa_nil)) (pg_name (i := 4) S.nd rfl (by first | exact Or.inl rfl | exact Or.inr rfl)) (pss_one (ps_if (pt_not (pt_val (pe_cal C__law_index_right hr (by decide) rfl (pa_cons (pv 3) (pa_cons (pe_cal C__law_index hr (by decide) rfl (pa_cons (pv 1) (pa_cons (pe_ix (ix_uK K) (pv 3) pe_int (fun _ _ => rfl)) pa_nil))) pa_nil))))) (pss_one (ps_ret pe_bl)) pss_nil))))))
        (pss_cons (ps_par (i := 5) (j := 6) rfl S.nd rfl rfl (by decide) rfl rfl (pa_cons (pe_callTy (call_tupK K) rfl T.tuple (by decide +kernel) (pa_cons (pe_lc (own := [("_law_column", 8)]) (g := gName 8) rfl S.nd (pi_range1 rfl T.range (pa_cons pe_int pa_nil)) (blkOk_by (own := [("_law_column", 8)]) (N := N_law) (sc := defScope s_law) (by decide +kernel)) (fun _ _ _ _ _ => (pg_name (i := 8) S.nd rfl (by first | exact Or.inl rfl | exact Or.inr rfl))) (fun _ _ _ _ _ => pts_nil) (fun _ _ _ _ _ => (pe_tupF (pa_cons (pv 8) (pa_cons pe_str pa_nil))))) pa_nil)) (pa_cons (pe_tupF (pa_cons (pe_tupF (pa_cons pe_int (pa_cons pe_str pa_nil))) (pa_cons (pe_tupF (pa_cons pe_int (pa_cons pe_str pa_nil))) pa_nil))) pa_nil)) rfl)
        (pss_cons (ps_if (pt_cmpR (op_neK K hu64) (pe_cal C_way_of hr (by decide) rfl (pa_cons pe_int (pa_cons (pv 5) (pa_cons (pe_tupF (pa_cons (pe_tupF (pa_cons pe_int (pa_cons pe_int (pa_cons pe_int (pa_cons pe_int (pa_cons pe_int (pa_cons pe_int pa_nil))))))) (pa_cons (pv 6) pa_nil))) pa_nil)))) pe_str (nomark _)) (pss_one (ps_ret pe_bl)) pss_nil)
        (pss_cons (ps_if (pt_cmpR (op_neK K hu64) (pe_cal C_way_of hr (by decide) rfl (pa_cons pe_int (pa_cons (pv 5) (pa_cons (pe_tupF (pa_cons (pe_tupF (pa_cons pe_int (pa_cons pe_int (pa_cons pe_int (pa_cons pe_int (pa_cons pe_int (pa_cons pe_int pa_nil))))))) (pa_cons (pe_cal C__law_turned hr (by decide) rfl (pa_cons (pv 6) pa_nil)) pa_nil))) pa_nil)))) pe_str (nomark _)) (pss_one (ps_ret pe_bl)) pss_nil)
        (pss_cons (ps_set (i := 7) S.nd rfl (by first | exact Or.inl rfl | exact Or.inr rfl) (pe_tupF (pa_cons (pe_tupF (pa_cons pe_int (pa_cons pe_str pa_nil))) (pa_cons (pe_tupF (pa_cons pe_int (pa_cons pe_str pa_nil))) (pa_cons (pe_tupF (pa_cons pe_int (pa_cons pe_str pa_nil))) pa_nil)))))
        (pss_cons (ps_if (pt_cmpR (op_neK K hu64) (pe_cal C_way_of hr (by decide) rfl (pa_cons pe_int (pa_cons (pv 7) (pa_cons (pe_tupF (pa_cons (pe_tupF (pa_cons pe_int pa_nil)) (pa_cons (pe_tupF (pa_cons (pe_tupF (pa_cons pe_int (pa_cons pe_str pa_nil))) (pa_cons (pe_tupF (pa_cons pe_int (pa_cons pe_str pa_nil))) pa_nil))) pa_nil))) pa_nil)))) pe_str (nomark _)) (pss_one (ps_ret pe_bl)) pss_nil)
        (pss_cons (ps_if (pt_cmpR (op_neK K hu64) (pe_cal C_way_of hr (by decide) rfl (pa_cons pe_int (pa_cons (pv 7) (pa_cons (pe_tupF (pa_cons (pe_tupF (pa_cons pe_int (pa_cons pe_int pa_nil))) (pa_cons (pe_tupF pa_nil) pa_nil))) pa_nil)))) pe_str (nomark _)) (pss_one (ps_ret pe_bl)) pss_nil)
        (pss_one (ps_ret (pe_and (pe_cmpR (op_isN) (pe_cal C_way_of hr (by decide) rfl (pa_cons pe_int (pa_cons (pv 7) (pa_cons (pe_tupF (pa_cons (pe_tupF (pa_cons pe_int pa_nil)) (pa_cons (pe_tupF (pa_cons (pe_tupF (pa_cons pe_int (pa_cons pe_str pa_nil))) (pa_cons (pe_tupF (pa_cons pe_int (pa_cons pe_str pa_nil))) pa_nil))) pa_nil))) pa_nil)))) pe_non (nomark _)) (pe_one (pe_cmpR (op_isN) (pe_cal C_way_of hr (by decide) rfl (pa_cons pe_int (pa_cons (pv 7) (pa_cons (pe_tupF (pa_cons (pe_tupF (pa_cons pe_int pa_nil)) (pa_cons (pe_tupF pa_nil) pa_nil))) pa_nil)))) pe_non (nomark _)))))))))))))), fun D vs H E h => ?_⟩
  obtain ⟨b, ns, rfl, hb, hl, q⟩ := h
  refine ⟨_, rfl, b, ns, rfl, hb, hl, fun a c l H1 s1 st1 => ?_⟩
  have nw1 : Nw K ⟨1, a, c, l⟩ rho9 ((L2.start N_law [.ref b]).set 1 (some (.ref a))) H1 0 := by
    refine ⟨⟨rfl, fun i o x y z => ?_⟩, .rep 9, rfl, st1⟩
    have : x = Sl.no := List.eq_of_mem_replicate (List.mem_of_getElem? z)
    subst this
    trivial
  show tSeq _ _ D ((L2.start N_law [.ref b]).set 1 (some (.ref a))) H1
  refine SR.go (t := tSeq _ _) (k := 5000) (R := (· = .bool true)) ((sr_seq (k1 := 6 * 801) (k2 := 0) (G := (· = rho9)) (sn_loop (i := 2) (show (2 : Nat) ≠ 1 by decide) (by decide) (da_cons (de_int (i := ((6 : Nat) : Int))) da_nil) fun j hj => ?_) fun ρ' g => ?_).w (by decide) fun r h => h) (show 0 + 5000 ≤ 1000000 by decide) nw1 fun v H' r n' _ _ _ g dv => by
      subst g
      obtain rfl := dv.getB
      exact q H'
  · -- a demand, four indexes
    refine (sn_seq (k1 := 701) (k2 := 4 * 25) (sn_set (i := 3) (R := fun r => ∃ (n : Nat) (ls : List Lk), r = encDem n ls ∧ DemOk n ls) ((se_call (S := ⟨1, a, c, l⟩) (pre := isDem) (cost := 700) (post := atDem) (sa_head (se_opR (R' := fun r => ∃ k : Nat, 1 ≤ k ∧ k ≤ 5 ∧ r = .int (k : Int)) de_int rfl (se_draw (S := ⟨1, a, c, l⟩) (m := 5) de_int (by decide) (by decide)) fun y hy => ?_) (da_cons (de_int (i := ((8 : Nat) : Int))) da_nil)) fun ds h => ?_).w (by decide) fun r h => h)
      (show (3 : Nat) ≠ 1 by decide) fun r h => by obtain ⟨n, ls, rfl, _⟩ := h; exact frz_dem _ _) fun ρ' g => ?_).wk (k' := 801) (by decide) fun r h => h
    · obtain ⟨k, hk, rfl⟩ := hy
      exact ⟨_, r_plusI, k + 1, by omega, by omega, by congr 1; omega⟩
    · obtain ⟨x, ⟨k, hk1, hk2, rfl⟩, rfl⟩ := h
      refine ⟨⟨k, 8, rfl, hk1, by omega, by decide, by decide⟩, fun r h => ?_⟩
      obtain ⟨n, m, ls, e, rfl, hd⟩ := h
      exact ⟨n, ls, rfl, hd⟩
    · obtain ⟨_, ⟨n, ls, rfl, hd⟩, rfl⟩ := g
      refine (sn_loop (i := 4) (k := 25) (ρ := [.no, .no, .d (.int (j : Int)), .d (encDem n ls), .no, .no, .no, .no, .no]) (show (4 : Nat) ≠ 1 by decide) (by decide) (da_cons (de_int (i := ((4 : Nat) : Int))) da_nil) fun j2 hj2 => ?_).wk (by decide) fun r h => ⟨[3, 2], by subst h; rfl⟩
      refine (sn_guard (sb_notT (sb_testV (R := (· = .bool true)) (se_callP (sa_tail (de_var rfl) (frz_dem _ _) (sa_head (se_index (S := ⟨1, a, c, l⟩) (c := n) (de_op (de_var rfl) (de_int (i := 0)) (r_ix (j := 0) rfl rfl rfl)) ?_ ?_) da_nil)) fun ds h => ?_) fun r h => ⟨true, h, rfl⟩))).wk (by decide) fun r h => ⟨[4], by subst h; rfl⟩
      · have := hd.1
        omega
      · have := hd.2.1
        omega
      · obtain ⟨ys, ⟨x, ⟨ix, rfl, hix⟩, rfl⟩, rfl⟩ := h
        exact ⟨_, ⟨n, ls, ix, rfl, hd, hix, rfl⟩, rfl⟩
  · subst g
    refine (sr_pure (d := .bool true) ?_).w (by decide) fun r h => h
    have up : ∀ {ρ : Rho} {i : Int}, DE K (tTupF (tCons (tC (.int i)) (tCons (tC (.str "up")) tNil))) ρ (encStep (i, true)) := fun {ρ i} => de_tup (da_cons de_int (da_cons de_str da_nil)) (show 2 ≤ 1000 by decide)
    have down : ∀ {ρ : Rho} {i : Int}, DE K (tTupF (tCons (tC (.int i)) (tCons (tC (.str "down")) tNil))) ρ (encStep (i, false)) := fun {ρ i} => de_tup (da_cons de_int (da_cons de_str da_nil)) (show 2 ≤ 1000 by decide)
    refine dr_seq (dn_par (x := encSteps wideM) (y := encSteps [(6, true), (7, true)]) (da_cons ((de_cb (da_cons (de_map (items := rgD 8) (enc := .int) _ (fun x => encStep (x, true)) (di_range (n := 8) (da_cons de_int da_nil) (by decide)) (by rw [rgD_len]; decide) (fun x _ => dg_name (by decide))
      (fun x m => de_tup (da_cons (de_var rfl) (da_cons de_str da_nil)) (show 2 ≤ 1000 by decide)) (fun _ => rfl)) da_nil) c_tuple).is (by unfold wideM encSteps; rw [List.map_map]; rfl)) (da_cons (de_tup (da_cons up (da_cons up da_nil)) (show 2 ≤ 1000 by decide)) da_nil))) ?_
    refine dr_seq (dn_skip (dt_test ((de_op (de_call (da_cons de_int (da_cons (de_var rfl) (da_cons (de_tup (da_cons (de_tup (da_cons de_int (da_cons de_int (da_cons de_int (da_cons de_int (da_cons de_int (da_cons de_int da_nil)))))) (show 6 ≤ 1000 by decide)) (da_cons (de_var rfl) da_nil)) (show 2 ≤ 1000 by decide)) da_nil)))
      ⟨8, wideM, ([0, 1, 2, 3, 4, 5], [(6, true), (7, true)]), rfl, by decide, by decide, ok_wide, ok1, rfl⟩) de_str (r_neD (by rw [way1]; decide +kernel) (by decide +kernel))).is (by rw [way1]; exact ev_f)))) ?_
    refine dr_seq (dn_skip (dt_test ((de_op (de_call (da_cons de_int (da_cons (de_var rfl) (da_cons (de_tup (da_cons (de_tup (da_cons de_int (da_cons de_int (da_cons de_int (da_cons de_int (da_cons de_int (da_cons de_int da_nil)))))) (show 6 ≤ 1000 by decide)) (da_cons (de_call (da_cons (de_var rfl) da_nil) ⟨[(6, true), (7, true)], rfl, by decide, rfl⟩) da_nil)) (show 2 ≤ 1000 by decide)) da_nil)))
      ⟨8, wideM, ([0, 1, 2, 3, 4, 5], turnM [(6, true), (7, true)]), rfl, by decide, by decide, ok_wide, ok2, rfl⟩) de_str (r_neD (by rw [way2]; decide +kernel) (by decide +kernel))).is (by rw [way2]; exact ev_b)))) ?_
    refine dr_seq (dn_set (d := encSteps midM) (de_tup (da_cons up (da_cons down (da_cons up da_nil))) (show 3 ≤ 1000 by decide))) ?_
    refine dr_seq (dn_skip (dt_test ((de_op (de_call (da_cons de_int (da_cons (de_var rfl) (da_cons (de_tup (da_cons (de_tup (da_cons de_int da_nil) (show 1 ≤ 1000 by decide)) (da_cons (de_tup (da_cons up (da_cons down da_nil)) (show 2 ≤ 1000 by decide)) da_nil)) (show 2 ≤ 1000 by decide)) da_nil)))
      ⟨3, midM, ([1], [(0, true), (2, false)]), rfl, by decide, by decide, ok_mid, ok3, rfl⟩) de_str (r_neD (by rw [way3]; decide +kernel) (by decide +kernel))).is (by rw [way3]; exact ev_b)))) ?_
    refine dr_seq (dn_skip (dt_test ((de_op (de_call (da_cons de_int (da_cons (de_var rfl) (da_cons (de_tup (da_cons (de_tup (da_cons de_int (da_cons de_int da_nil)) (show 2 ≤ 1000 by decide)) (da_cons (de_tup da_nil (by decide)) da_nil)) (show 2 ≤ 1000 by decide)) da_nil)))
      ⟨3, midM, ([0, 1], []), rfl, by decide, by decide, ok_mid, ok4, rfl⟩) de_str (r_neD (by rw [way4]; decide +kernel) (by decide +kernel))).is (by rw [way4]; exact ev_f)))) ?_
    exact dr_ret ((de_andV (a := true) (b := true) ((de_op (de_call (da_cons de_int (da_cons (de_var rfl) (da_cons (de_tup (da_cons (de_tup (da_cons de_int da_nil) (show 1 ≤ 1000 by decide)) (da_cons (de_tup (da_cons up (da_cons up da_nil)) (show 2 ≤ 1000 by decide)) da_nil)) (show 2 ≤ 1000 by decide)) da_nil)))
      ⟨3, midM, ([1], [(0, true), (2, true)]), rfl, by decide, by decide, ok_mid, ok5, rfl⟩) de_non (r_isN (v := .non) (by rw [way5]; rfl))).is (by rfl))
      fun _ => (de_op (de_call (da_cons de_int (da_cons (de_var rfl) (da_cons (de_tup (da_cons (de_tup (da_cons de_int da_nil) (show 1 ≤ 1000 by decide)) (da_cons (de_tup da_nil (by decide)) da_nil)) (show 2 ≤ 1000 by decide)) da_nil)))
      ⟨3, midM, ([0], []), rfl, by decide, by decide, ok_mid, ok6, rfl⟩) de_non (r_isN (v := .non) (by rw [way6]; rfl))).is (by rfl)).is rfl)
end
end K3
set_option Elab.async false
set_option linter.all false
set_option maxRecDepth 100000
set_option maxHeartbeats 0
/-! The head: what the module holds behind its run; the law joined. -/
namespace K3
open PySem PySem.Spec PyProof.Rows L2
def d_is_integer : He.DefD := ⟨("is_integer", none), "is_integer", "is_integer", defArgs s_is_integer, defBody s_is_integer, defScope s_is_integer, [], []⟩
def d_is_between : He.DefD := ⟨("is_between", none), "is_between", "is_between", defArgs s_is_between, defBody s_is_between, defScope s_is_between, [], []⟩
def d_is_rising : He.DefD := ⟨("is_rising", none), "is_rising", "is_rising", defArgs s_is_rising, defBody s_is_rising, defScope s_is_rising, [], []⟩
def d_is_lot : He.DefD := ⟨("is_lot", none), "is_lot", "is_lot", defArgs s_is_lot, defBody s_is_lot, defScope s_is_lot, [], []⟩
def d_is_step : He.DefD := ⟨("is_step", none), "is_step", "is_step", defArgs s_is_step, defBody s_is_step, defScope s_is_step, [], []⟩
def d_are_steps : He.DefD := ⟨("are_steps", none), "are_steps", "are_steps", defArgs s_are_steps, defBody s_are_steps, defScope s_are_steps, [], []⟩
def d_is_lookup : He.DefD := ⟨("is_lookup", none), "is_lookup", "is_lookup", defArgs s_is_lookup, defBody s_is_lookup, defScope s_is_lookup, [], []⟩
def d_is_index : He.DefD := ⟨("is_index", none), "is_index", "is_index", defArgs s_is_index, defBody s_is_index, defScope s_is_index, [], []⟩
def d_need_columns : He.DefD := ⟨("need_columns", none), "need_columns", "need_columns", defArgs s_need_columns, defBody s_need_columns, defScope s_need_columns, [], []⟩
def d_need_lookup_of : He.DefD := ⟨("need_lookup_of", none), "need_lookup_of", "need_lookup_of", defArgs s_need_lookup_of, defBody s_need_lookup_of, defScope s_need_lookup_of, [], []⟩
def d_need_index_of : He.DefD := ⟨("need_index_of", none), "need_index_of", "need_index_of", defArgs s_need_index_of, defBody s_need_index_of, defScope s_need_index_of, [], []⟩
def d_need_index : He.DefD := ⟨("need_index", none), "need_index", "need_index", defArgs s_need_index, defBody s_need_index, defScope s_need_index, [], []⟩
def d_beginnings_in : He.DefD := ⟨("beginnings_in", none), "beginnings_in", "beginnings_in", defArgs s_beginnings_in, defBody s_beginnings_in, defScope s_beginnings_in, [], []⟩
def d__law_begun : He.DefD := ⟨("_law_begun", none), "_law_begun", "_law_begun", defArgs s__law_begun, defBody s__law_begun, defScope s__law_begun, [], []⟩
def d_sets_in : He.DefD := ⟨("sets_in", none), "sets_in", "sets_in", defArgs s_sets_in, defBody s_sets_in, defScope s_sets_in, [], []⟩
def d__law_sets : He.DefD := ⟨("_law_sets", none), "_law_sets", "_law_sets", defArgs s__law_sets, defBody s__law_sets, defScope s__law_sets, [], []⟩
def d_likeness : He.DefD := ⟨("likeness", none), "likeness", "likeness", defArgs s_likeness, defBody s_likeness, defScope s_likeness, [], []⟩
def d_way_in : He.DefD := ⟨("way_in", none), "way_in", "way_in", defArgs s_way_in, defBody s_way_in, defScope s_way_in, [], []⟩
def d__law_turned : He.DefD := ⟨("_law_turned", none), "_law_turned", "_law_turned", defArgs s__law_turned, defBody s__law_turned, defScope s__law_turned, [], []⟩
def d__law_way : He.DefD := ⟨("_law_way", none), "_law_way", "_law_way", defArgs s__law_way, defBody s__law_way, defScope s__law_way, [], []⟩
def d_way_of : He.DefD := ⟨("way_of", none), "way_of", "way_of", defArgs s_way_of, defBody s_way_of, defScope s_way_of, [], []⟩
def d_does_serve : He.DefD := ⟨("does_serve", none), "does_serve", "does_serve", defArgs s_does_serve, defBody s_does_serve, defScope s_does_serve, [], []⟩
def d_beginnings : He.DefD := ⟨("beginnings", none), "beginnings", "beginnings", defArgs s_beginnings, defBody s_beginnings, defScope s_beginnings, [], []⟩
def d_need_demand : He.DefD := ⟨("need_demand", none), "need_demand", "need_demand", defArgs s_need_demand, defBody s_need_demand, defScope s_need_demand, [], []⟩
def d_served_in : He.DefD := ⟨("served_in", none), "served_in", "served_in", defArgs s_served_in, defBody s_served_in, defScope s_served_in, [], []⟩
def d_served_by : He.DefD := ⟨("served_by", none), "served_by", "served_by", defArgs s_served_by, defBody s_served_by, defScope s_served_by, [], []⟩
def d__law_index_right : He.DefD := ⟨("_law_index_right", none), "_law_index_right", "_law_index_right", defArgs s__law_index_right, defBody s__law_index_right, defScope s__law_index_right, [], []⟩
def d__law_mixed : He.DefD := ⟨("_law_mixed", none), "_law_mixed", "_law_mixed", defArgs s__law_mixed, defBody s__law_mixed, defScope s__law_mixed, [], []⟩
def d__law_draw : He.DefD := ⟨("_law_draw", none), "_law_draw", "_law_draw", defArgs s__law_draw, defBody s__law_draw, defScope s__law_draw, [], []⟩
def d__law_steps : He.DefD := ⟨("_law_steps", none), "_law_steps", "_law_steps", defArgs s__law_steps, defBody s__law_steps, defScope s__law_steps, [], []⟩
def d__law_index : He.DefD := ⟨("_law_index", none), "_law_index", "_law_index", defArgs s__law_index, defBody s__law_index, defScope s__law_index, [], []⟩
def d__law_lookup : He.DefD := ⟨("_law_lookup", none), "_law_lookup", "_law_lookup", defArgs s__law_lookup, defBody s__law_lookup, defScope s__law_lookup, [], []⟩
def d__law_near : He.DefD := ⟨("_law_near", none), "_law_near", "_law_near", defArgs s__law_near, defBody s__law_near, defScope s__law_near, [], []⟩
def d__law_demand : He.DefD := ⟨("_law_demand", none), "_law_demand", "_law_demand", defArgs s__law_demand, defBody s__law_demand, defScope s__law_demand, [], []⟩
def d__law_begin : He.DefD := ⟨("_law_begin", none), "_law_begin", "_law_begin", defArgs s__law_begin, defBody s__law_begin, defScope s__law_begin, [], []⟩
def d_law : He.DefD := ⟨("law", none), "law", "law", defArgs s_law, defBody s_law, defScope s_law, [], []⟩
def hFn0 : List He.DefD := [d_is_integer, d_is_between, d_is_rising, d_is_lot, d_is_step, d_are_steps, d_is_lookup, d_is_index, d_need_columns, d_need_lookup_of, d_need_index_of, d_need_index, d_beginnings_in, d__law_begun, d_sets_in, d__law_sets, d_likeness, d_way_in, d__law_turned, d__law_way, d_way_of, d_does_serve, d_beginnings, d_need_demand, d_served_in, d_served_by, d__law_index_right, d__law_mixed, d__law_draw, d__law_steps]
def hFn1 : List He.DefD := [d__law_index, d__law_lookup, d__law_near, d__law_demand, d__law_begin, d_law]
def hFn : List He.DefD := hFn0 ++ hFn1
def hFa0 : List He.Fa := [.glo "is_integer", .glo "is_between", .glo "is_rising", .glo "is_lot", .glo "is_step", .glo "are_steps", .glo "is_lookup", .glo "is_index", .glo "need_columns", .glo "need_lookup_of", .glo "need_index_of", .glo "need_index", .glo "beginnings_in", .glo "_law_begun", .glo "sets_in", .glo "_law_sets", .glo "likeness", .glo "way_in", .glo "_law_turned", .glo "_law_way", .glo "way_of", .glo "does_serve", .glo "beginnings", .glo "need_demand", .glo "served_in", .glo "served_by", .glo "_law_index_right", .glo "_law_mixed", .glo "_law_draw", .glo "_law_steps"]
def hFa1 : List He.Fa := [.glo "_law_index", .glo "_law_lookup", .glo "_law_near", .glo "_law_demand", .glo "_law_begin", .glo "law", .glo "WAYS", .int "MOST_COLUMNS" 8, .int "MOST_LOOKUPS" 12, .str "FORWARD" "forward", .str "BACKWARD" "backward", .free "isinstance", .free "int", .free "bool", .free "str", .free "tuple", .free "all", .free "any", .free "zip", .free "sorted", .free "len", .free "list", .free "dict", .free "range", .free "enumerate", .free "min"]
def hFa : List He.Fa := hFa0 ++ hFa1
def hLoose0 : List PySem.Str := ["__name__", "FewError", "BadDemand", "BadNumber", "BadLookup", "BadIndex", "MOST_COLUMNS", "UP", "DOWN", "FORWARD", "BACKWARD", "WAYS", "is_integer", "is_between", "is_rising", "is_lot", "is_step", "are_steps", "is_lookup", "is_index", "need_columns", "need_lookup_of", "need_index_of", "sets_in", "beginnings_in", "likeness", "way_in", "MOST_LOOKUPS", "need_demand", "need_index"]
def hLoose1 : List PySem.Str := ["beginnings", "way_of", "does_serve", "served_in", "served_by", "_law_mixed", "_law_begin", "_law_draw", "_law_of", "_law_sets", "_law_begun", "_law_turned", "_law_way", "_law_within", "_law_has", "_law_two_fit", "_law_bare", "_law_steps", "_law_lookup", "_law_index", "_law_near", "_law_demand", "_law_table", "_law_index_right"]
def hLoose : List PySem.Str := hLoose0 ++ hLoose1
def hWays (K : PySem.W.Frag) : Bool := He.tupB K "WAYS" [.str "up", .str "down"]
abbrev hR : PySem.W.OpenRow := PySem.W.OpenLaw.row PySem.Challenge.rw_fewindexes_k03_whole_indexes
abbrev hK : PySem.W.Hook := He.hookX 4 hFa hFn [] [] hWays
def hOb (s : PySem.W.SharedT) : He.AlX := He.obsX 4 hFa hFn [] [] hWays (HandSHeadRun.getT s)
theorem hOb_eq (s : PySem.W.SharedT) : hOb s = hK.obs s.abs := He.obsX_eq (HandSHeadRun.getT_eq s)
theorem hRun (w : World) : HandSHeadRun.RunEq hR (PySem.W.view hR.prog [58]) hK hOb 4000 hLoose w := by
  intro os
  kernel_rfl
section
variable {P : Program} {w : World} {K : PySem.W.Frag} {h : Heap} {mg : Str → Option Value}
theorem df_is_integer (X : K.In h) (G : h.Ns mainGlobals mg) (c : He.SaysD hFa hFn K) : Def K mg "is_integer" s_is_integer := by
  obtain ⟨fd, F⟩ := c.def_ 0 (d := d_is_integer) rfl
  exact ⟨_, fd, F, He.glo_ok X G (c.fact 0 (f := .glo "is_integer") rfl)⟩
theorem df_is_between (X : K.In h) (G : h.Ns mainGlobals mg) (c : He.SaysD hFa hFn K) : Def K mg "is_between" s_is_between := by
  obtain ⟨fd, F⟩ := c.def_ 1 (d := d_is_between) rfl
  exact ⟨_, fd, F, He.glo_ok X G (c.fact 1 (f := .glo "is_between") rfl)⟩
theorem df_is_rising (X : K.In h) (G : h.Ns mainGlobals mg) (c : He.SaysD hFa hFn K) : Def K mg "is_rising" s_is_rising := by
  obtain ⟨fd, F⟩ := c.def_ 2 (d := d_is_rising) rfl
  exact ⟨_, fd, F, He.glo_ok X G (c.fact 2 (f := .glo "is_rising") rfl)⟩
theorem df_is_lot (X : K.In h) (G : h.Ns mainGlobals mg) (c : He.SaysD hFa hFn K) : Def K mg "is_lot" s_is_lot := by
  obtain ⟨fd, F⟩ := c.def_ 3 (d := d_is_lot) rfl
  exact ⟨_, fd, F, He.glo_ok X G (c.fact 3 (f := .glo "is_lot") rfl)⟩
theorem df_is_step (X : K.In h) (G : h.Ns mainGlobals mg) (c : He.SaysD hFa hFn K) : Def K mg "is_step" s_is_step := by
  obtain ⟨fd, F⟩ := c.def_ 4 (d := d_is_step) rfl
  exact ⟨_, fd, F, He.glo_ok X G (c.fact 4 (f := .glo "is_step") rfl)⟩
theorem df_are_steps (X : K.In h) (G : h.Ns mainGlobals mg) (c : He.SaysD hFa hFn K) : Def K mg "are_steps" s_are_steps := by
  obtain ⟨fd, F⟩ := c.def_ 5 (d := d_are_steps) rfl
  exact ⟨_, fd, F, He.glo_ok X G (c.fact 5 (f := .glo "are_steps") rfl)⟩
theorem df_is_lookup (X : K.In h) (G : h.Ns mainGlobals mg) (c : He.SaysD hFa hFn K) : Def K mg "is_lookup" s_is_lookup := by
  obtain ⟨fd, F⟩ := c.def_ 6 (d := d_is_lookup) rfl
  exact ⟨_, fd, F, He.glo_ok X G (c.fact 6 (f := .glo "is_lookup") rfl)⟩
theorem df_is_index (X : K.In h) (G : h.Ns mainGlobals mg) (c : He.SaysD hFa hFn K) : Def K mg "is_index" s_is_index := by
  obtain ⟨fd, F⟩ := c.def_ 7 (d := d_is_index) rfl
  exact ⟨_, fd, F, He.glo_ok X G (c.fact 7 (f := .glo "is_index") rfl)⟩
theorem df_need_columns (X : K.In h) (G : h.Ns mainGlobals mg) (c : He.SaysD hFa hFn K) : Def K mg "need_columns" s_need_columns := by
  obtain ⟨fd, F⟩ := c.def_ 8 (d := d_need_columns) rfl
  exact ⟨_, fd, F, He.glo_ok X G (c.fact 8 (f := .glo "need_columns") rfl)⟩
theorem df_need_lookup_of (X : K.In h) (G : h.Ns mainGlobals mg) (c : He.SaysD hFa hFn K) : Def K mg "need_lookup_of" s_need_lookup_of := by
  obtain ⟨fd, F⟩ := c.def_ 9 (d := d_need_lookup_of) rfl
  exact ⟨_, fd, F, He.glo_ok X G (c.fact 9 (f := .glo "need_lookup_of") rfl)⟩
theorem df_need_index_of (X : K.In h) (G : h.Ns mainGlobals mg) (c : He.SaysD hFa hFn K) : Def K mg "need_index_of" s_need_index_of := by
  obtain ⟨fd, F⟩ := c.def_ 10 (d := d_need_index_of) rfl
  exact ⟨_, fd, F, He.glo_ok X G (c.fact 10 (f := .glo "need_index_of") rfl)⟩
theorem df_need_index (X : K.In h) (G : h.Ns mainGlobals mg) (c : He.SaysD hFa hFn K) : Def K mg "need_index" s_need_index := by
  obtain ⟨fd, F⟩ := c.def_ 11 (d := d_need_index) rfl
  exact ⟨_, fd, F, He.glo_ok X G (c.fact 11 (f := .glo "need_index") rfl)⟩
theorem df_beginnings_in (X : K.In h) (G : h.Ns mainGlobals mg) (c : He.SaysD hFa hFn K) : Def K mg "beginnings_in" s_beginnings_in := by
  obtain ⟨fd, F⟩ := c.def_ 12 (d := d_beginnings_in) rfl
  exact ⟨_, fd, F, He.glo_ok X G (c.fact 12 (f := .glo "beginnings_in") rfl)⟩
theorem df__law_begun (X : K.In h) (G : h.Ns mainGlobals mg) (c : He.SaysD hFa hFn K) : Def K mg "_law_begun" s__law_begun := by
  obtain ⟨fd, F⟩ := c.def_ 13 (d := d__law_begun) rfl
  exact ⟨_, fd, F, He.glo_ok X G (c.fact 13 (f := .glo "_law_begun") rfl)⟩
theorem df_sets_in (X : K.In h) (G : h.Ns mainGlobals mg) (c : He.SaysD hFa hFn K) : Def K mg "sets_in" s_sets_in := by
  obtain ⟨fd, F⟩ := c.def_ 14 (d := d_sets_in) rfl
  exact ⟨_, fd, F, He.glo_ok X G (c.fact 14 (f := .glo "sets_in") rfl)⟩
theorem df__law_sets (X : K.In h) (G : h.Ns mainGlobals mg) (c : He.SaysD hFa hFn K) : Def K mg "_law_sets" s__law_sets := by
  obtain ⟨fd, F⟩ := c.def_ 15 (d := d__law_sets) rfl
  exact ⟨_, fd, F, He.glo_ok X G (c.fact 15 (f := .glo "_law_sets") rfl)⟩
theorem df_likeness (X : K.In h) (G : h.Ns mainGlobals mg) (c : He.SaysD hFa hFn K) : Def K mg "likeness" s_likeness := by
  obtain ⟨fd, F⟩ := c.def_ 16 (d := d_likeness) rfl
  exact ⟨_, fd, F, He.glo_ok X G (c.fact 16 (f := .glo "likeness") rfl)⟩
theorem df_way_in (X : K.In h) (G : h.Ns mainGlobals mg) (c : He.SaysD hFa hFn K) : Def K mg "way_in" s_way_in := by
  obtain ⟨fd, F⟩ := c.def_ 17 (d := d_way_in) rfl
  exact ⟨_, fd, F, He.glo_ok X G (c.fact 17 (f := .glo "way_in") rfl)⟩
theorem df__law_turned (X : K.In h) (G : h.Ns mainGlobals mg) (c : He.SaysD hFa hFn K) : Def K mg "_law_turned" s__law_turned := by
  obtain ⟨fd, F⟩ := c.def_ 18 (d := d__law_turned) rfl
  exact ⟨_, fd, F, He.glo_ok X G (c.fact 18 (f := .glo "_law_turned") rfl)⟩
theorem df__law_way (X : K.In h) (G : h.Ns mainGlobals mg) (c : He.SaysD hFa hFn K) : Def K mg "_law_way" s__law_way := by
  obtain ⟨fd, F⟩ := c.def_ 19 (d := d__law_way) rfl
  exact ⟨_, fd, F, He.glo_ok X G (c.fact 19 (f := .glo "_law_way") rfl)⟩
theorem df_way_of (X : K.In h) (G : h.Ns mainGlobals mg) (c : He.SaysD hFa hFn K) : Def K mg "way_of" s_way_of := by
  obtain ⟨fd, F⟩ := c.def_ 20 (d := d_way_of) rfl
  exact ⟨_, fd, F, He.glo_ok X G (c.fact 20 (f := .glo "way_of") rfl)⟩
theorem df_does_serve (X : K.In h) (G : h.Ns mainGlobals mg) (c : He.SaysD hFa hFn K) : Def K mg "does_serve" s_does_serve := by
  obtain ⟨fd, F⟩ := c.def_ 21 (d := d_does_serve) rfl
  exact ⟨_, fd, F, He.glo_ok X G (c.fact 21 (f := .glo "does_serve") rfl)⟩
theorem df_beginnings (X : K.In h) (G : h.Ns mainGlobals mg) (c : He.SaysD hFa hFn K) : Def K mg "beginnings" s_beginnings := by
  obtain ⟨fd, F⟩ := c.def_ 22 (d := d_beginnings) rfl
  exact ⟨_, fd, F, He.glo_ok X G (c.fact 22 (f := .glo "beginnings") rfl)⟩
theorem df_need_demand (X : K.In h) (G : h.Ns mainGlobals mg) (c : He.SaysD hFa hFn K) : Def K mg "need_demand" s_need_demand := by
  obtain ⟨fd, F⟩ := c.def_ 23 (d := d_need_demand) rfl
  exact ⟨_, fd, F, He.glo_ok X G (c.fact 23 (f := .glo "need_demand") rfl)⟩
theorem df_served_in (X : K.In h) (G : h.Ns mainGlobals mg) (c : He.SaysD hFa hFn K) : Def K mg "served_in" s_served_in := by
  obtain ⟨fd, F⟩ := c.def_ 24 (d := d_served_in) rfl
  exact ⟨_, fd, F, He.glo_ok X G (c.fact 24 (f := .glo "served_in") rfl)⟩
theorem df_served_by (X : K.In h) (G : h.Ns mainGlobals mg) (c : He.SaysD hFa hFn K) : Def K mg "served_by" s_served_by := by
  obtain ⟨fd, F⟩ := c.def_ 25 (d := d_served_by) rfl
  exact ⟨_, fd, F, He.glo_ok X G (c.fact 25 (f := .glo "served_by") rfl)⟩
theorem df__law_index_right (X : K.In h) (G : h.Ns mainGlobals mg) (c : He.SaysD hFa hFn K) : Def K mg "_law_index_right" s__law_index_right := by
  obtain ⟨fd, F⟩ := c.def_ 26 (d := d__law_index_right) rfl
  exact ⟨_, fd, F, He.glo_ok X G (c.fact 26 (f := .glo "_law_index_right") rfl)⟩
theorem df__law_mixed (X : K.In h) (G : h.Ns mainGlobals mg) (c : He.SaysD hFa hFn K) : Def K mg "_law_mixed" s__law_mixed := by
  obtain ⟨fd, F⟩ := c.def_ 27 (d := d__law_mixed) rfl
  exact ⟨_, fd, F, He.glo_ok X G (c.fact 27 (f := .glo "_law_mixed") rfl)⟩
theorem df__law_draw (X : K.In h) (G : h.Ns mainGlobals mg) (c : He.SaysD hFa hFn K) : Def K mg "_law_draw" s__law_draw := by
  obtain ⟨fd, F⟩ := c.def_ 28 (d := d__law_draw) rfl
  exact ⟨_, fd, F, He.glo_ok X G (c.fact 28 (f := .glo "_law_draw") rfl)⟩
theorem df__law_steps (X : K.In h) (G : h.Ns mainGlobals mg) (c : He.SaysD hFa hFn K) : Def K mg "_law_steps" s__law_steps := by
  obtain ⟨fd, F⟩ := c.def_ 29 (d := d__law_steps) rfl
  exact ⟨_, fd, F, He.glo_ok X G (c.fact 29 (f := .glo "_law_steps") rfl)⟩
theorem df__law_index (X : K.In h) (G : h.Ns mainGlobals mg) (c : He.SaysD hFa hFn K) : Def K mg "_law_index" s__law_index := by
  obtain ⟨fd, F⟩ := c.def_ 30 (d := d__law_index) rfl
  exact ⟨_, fd, F, He.glo_ok X G (c.fact 30 (f := .glo "_law_index") rfl)⟩
theorem df__law_lookup (X : K.In h) (G : h.Ns mainGlobals mg) (c : He.SaysD hFa hFn K) : Def K mg "_law_lookup" s__law_lookup := by
  obtain ⟨fd, F⟩ := c.def_ 31 (d := d__law_lookup) rfl
  exact ⟨_, fd, F, He.glo_ok X G (c.fact 31 (f := .glo "_law_lookup") rfl)⟩
theorem df__law_near (X : K.In h) (G : h.Ns mainGlobals mg) (c : He.SaysD hFa hFn K) : Def K mg "_law_near" s__law_near := by
  obtain ⟨fd, F⟩ := c.def_ 32 (d := d__law_near) rfl
  exact ⟨_, fd, F, He.glo_ok X G (c.fact 32 (f := .glo "_law_near") rfl)⟩
theorem df__law_demand (X : K.In h) (G : h.Ns mainGlobals mg) (c : He.SaysD hFa hFn K) : Def K mg "_law_demand" s__law_demand := by
  obtain ⟨fd, F⟩ := c.def_ 33 (d := d__law_demand) rfl
  exact ⟨_, fd, F, He.glo_ok X G (c.fact 33 (f := .glo "_law_demand") rfl)⟩
theorem df__law_begin (X : K.In h) (G : h.Ns mainGlobals mg) (c : He.SaysD hFa hFn K) : Def K mg "_law_begin" s__law_begin := by
  obtain ⟨fd, F⟩ := c.def_ 34 (d := d__law_begin) rfl
  exact ⟨_, fd, F, He.glo_ok X G (c.fact 34 (f := .glo "_law_begin") rfl)⟩
theorem hFx (X : K.In h) (G : h.Ns mainGlobals mg) (c : He.SaysD hFa hFn K) (e : hWays K = true) : Fx K mg where
  isinstance := He.free_ok X G (c.fact 41 (f := .free "isinstance") rfl)
  int := He.free_ok X G (c.fact 42 (f := .free "int") rfl)
  bool := He.free_ok X G (c.fact 43 (f := .free "bool") rfl)
  str := He.free_ok X G (c.fact 44 (f := .free "str") rfl)
  tuple := He.free_ok X G (c.fact 45 (f := .free "tuple") rfl)
  all := He.free_ok X G (c.fact 46 (f := .free "all") rfl)
  any := He.free_ok X G (c.fact 47 (f := .free "any") rfl)
  zip := He.free_ok X G (c.fact 48 (f := .free "zip") rfl)
  sorted := He.free_ok X G (c.fact 49 (f := .free "sorted") rfl)
  len := He.free_ok X G (c.fact 50 (f := .free "len") rfl)
  list := He.free_ok X G (c.fact 51 (f := .free "list") rfl)
  dict := He.free_ok X G (c.fact 52 (f := .free "dict") rfl)
  range := He.free_ok X G (c.fact 53 (f := .free "range") rfl)
  enumerate := He.free_ok X G (c.fact 54 (f := .free "enumerate") rfl)
  min := He.free_ok X G (c.fact 55 (f := .free "min") rfl)
  MOST_COLUMNS := He.int_ok X G (c.fact 37 (f := .int "MOST_COLUMNS" 8) rfl)
  MOST_LOOKUPS := He.int_ok X G (c.fact 38 (f := .int "MOST_LOOKUPS" 12) rfl)
  FORWARD := He.str_ok X G (c.fact 39 (f := .str "FORWARD" "forward") rfl)
  BACKWARD := He.str_ok X G (c.fact 40 (f := .str "BACKWARD" "backward") rfl)
  WAYS := ⟨_, He.glo_ok X G (c.fact 36 (f := .glo "WAYS") rfl), fun H => He.tupB_ok e H⟩
theorem hFacts {f : Addr} (X : K.In h) (G : h.Ns mainGlobals mg) (hfa : mg ("law" : Str) = some (.ref f)) (c : He.SaysD hFa hFn K) (e : hWays K = true) :
    ∃ fd : FuncData, (∀ (s : Shared) (v : Value), BindsTo s fd ⟨[v], []⟩ [("_law_script", v)]) ∧ ∀ base : Heap, K.In base → base.Ns mainGlobals mg → FnOk P w K mg base CX0 11 f fd ["_law_script"] (spLaw K) := by
  obtain ⟨fd, F⟩ := c.def_ 35 (d := d_law) rfl
  have e1 := hfa.symm.trans (He.glo_ok X G (c.fact 35 (f := .glo "law") rfl))
  cases e1
  have b := FunD.bindsA (ps := ["_law_script"]) F fun _ _ _ _ _ _ us hl => match us, hl with | [_], _ => rfl
  have T : Fx K mg := hFx X G c e
  refine ⟨fd, fun s v => b s [v] rfl, fun base _ _ => ?_⟩
  have C_is_integer := cal_is_integer (P := P) (w := w) (base := base) T (df_is_integer X G c)
  have C_is_between := cal_is_between (P := P) (w := w) (base := base) T (df_is_between X G c) C_is_integer
  have C_is_rising := cal_is_rising (P := P) (w := w) (base := base) T (df_is_rising X G c)
  have C_is_lot := cal_is_lot (P := P) (w := w) (base := base) T (df_is_lot X G c) C_is_between C_is_rising
  have C_is_step := cal_is_step (P := P) (w := w) (base := base) T (df_is_step X G c) C_is_between
  have C_are_steps := cal_are_steps (P := P) (w := w) (base := base) T (df_are_steps X G c) C_is_step C_is_rising
  have C_is_lookup := cal_is_lookup (P := P) (w := w) (base := base) T (df_is_lookup X G c) C_is_lot C_are_steps
  have C_is_index := cal_is_index (P := P) (w := w) (base := base) T (df_is_index X G c) C_are_steps
  have C_need_columns := cal_need_columns (P := P) (w := w) (base := base) T (df_need_columns X G c) C_is_between
  have C_need_lookup_of := cal_need_lookup_of (P := P) (w := w) (base := base) T (df_need_lookup_of X G c) C_is_lookup
  have C_need_index_of := cal_need_index_of (P := P) (w := w) (base := base) T (df_need_index_of X G c) C_is_index
  have C_need_index := cal_need_index (P := P) (w := w) (base := base) T (df_need_index X G c) C_need_columns C_need_index_of
  have C_beginnings_in := cal_beginnings_in (P := P) (w := w) (base := base) T (df_beginnings_in X G c)
  have C__law_begun := cal__law_begun (P := P) (w := w) (base := base) T (df__law_begun X G c)
  have C_sets_in := cal_sets_in (P := P) (w := w) (base := base) T (df_sets_in X G c)
  have C__law_sets := cal__law_sets (P := P) (w := w) (base := base) T (df__law_sets X G c)
  have C_likeness := cal_likeness (P := P) (w := w) (base := base) T (df_likeness X G c)
  have C_way_in := cal_way_in (P := P) (w := w) (base := base) T (df_way_in X G c) C_beginnings_in C_sets_in C_likeness
  have C__law_turned := cal__law_turned (P := P) (w := w) (base := base) T (df__law_turned X G c)
  have C__law_way := cal__law_way (P := P) (w := w) (base := base) T (df__law_way X G c) C__law_begun C__law_sets C__law_turned
  have C_way_of := cal_way_of (P := P) (w := w) (base := base) T (df_way_of X G c) C_need_index C_need_lookup_of C_way_in
  have C_does_serve := cal_does_serve (P := P) (w := w) (base := base) T (df_does_serve X G c) C_way_of
  have C_beginnings := cal_beginnings (P := P) (w := w) (base := base) T (df_beginnings X G c) C_beginnings_in C_need_index
  have C_need_demand := cal_need_demand (P := P) (w := w) (base := base) T (df_need_demand X G c) C_is_between C_is_lookup
  have C_served_in := cal_served_in (P := P) (w := w) (base := base) T (df_served_in X G c) C_way_in
  have C_served_by := cal_served_by (P := P) (w := w) (base := base) T (df_served_by X G c) C_need_demand C_need_index_of C_served_in
  have C__law_index_right := cal__law_index_right (P := P) (w := w) (base := base) T (df__law_index_right X G c) C_beginnings C__law_begun C_need_index C__law_turned C__law_way C_does_serve C_way_of C_served_by
  have C__law_mixed := cal__law_mixed (P := P) (w := w) (base := base) T (df__law_mixed X G c)
  have C__law_draw := cal__law_draw (P := P) (w := w) (base := base) T (df__law_draw X G c) C__law_mixed
  have C__law_steps := cal__law_steps (P := P) (w := w) (base := base) T (df__law_steps X G c) C__law_draw
  have C__law_index := cal__law_index (P := P) (w := w) (base := base) T (df__law_index X G c) C__law_steps C__law_draw
  have C__law_lookup := cal__law_lookup (P := P) (w := w) (base := base) T (df__law_lookup X G c) C__law_steps C__law_draw
  have C__law_near := cal__law_near (P := P) (w := w) (base := base) T (df__law_near X G c) C__law_draw C__law_lookup C__law_turned
  have C__law_demand := cal__law_demand (P := P) (w := w) (base := base) T (df__law_demand X G c) C__law_draw C__law_index C__law_near
  have C__law_begin := cal__law_begin (P := P) (w := w) (base := base) T (df__law_begin X G c)
  exact ok_law (P := P) (w := w) (base := base) T F C__law_begin C__law_demand C__law_draw C__law_index C__law_index_right C_way_of C__law_turned
end
end K3
open PySem PySem.W PySem.Calls PyProof.Rows
theorem PySem.Challenge.cw_fewindexes_k03_whole_indexes_holds : PySem.Challenge.rw_fewindexes_k03_whole_indexes.Holds := by
  w_on; o_law
  refine HandSHeadRun.head_any (r := OpenLaw.row PySem.Challenge.rw_fewindexes_k03_whole_indexes) (q := view (OpenLaw.row PySem.Challenge.rw_fewindexes_k03_whole_indexes).prog [58]) (H := K3.hK) (ob := K3.hOb) (M := 4000) (loose := K3.hLoose) (d := HandSHeadRun.topDef (OpenLaw.row PySem.Challenge.rw_fewindexes_k03_whole_indexes).prog 58) (kwd := []) K3.hOb_eq
    (by kernel_rfl) (fun s => by kernel_rfl) K3.hRun (by kernel_rfl) (by kernel_rfl) (by kernel_rfl) (by rfl) (by first | assumption | decide +kernel) (by decide +kernel) ⟨rfl, rfl, rfl, rfl, rfl, by decide +kernel⟩ ?hw ?hc
  case hw => w_witness2
  case hc =>
    refine L2.walk_ofE (l := PySem.Challenge.rw_fewindexes_k03_whole_indexes) (n := 63) (k := 11) (x := "_law_script") (CX := L2.CX0) rfl (by decide) (by kernel_rfl) ⟨rfl, by decide, by decide⟩ ?F (fun _ _ _ _ z => z)
    intro w mg fa h Y G hmg0
    obtain ⟨K, KX, c⟩ := Y
    have hmg : mg ("law" : PySem.Str) = some (.ref fa) := by
      have e : (HandSHeadRun.topDef (OpenLaw.row PySem.Challenge.rw_fewindexes_k03_whole_indexes).prog 58).name = ("law" : PySem.Str) := by kernel_rfl
      rw [← e]
      exact hmg0
    obtain ⟨fd, hb, hF⟩ := K3.hFacts (P := (PySem.Challenge.rw_fewindexes_k03_whole_indexes).prog) (w := w) KX G hmg c.t.d c.more
    exact ⟨K, fd, K3.spLaw K, KX, hb, fun H a ns hl _ hS => ⟨a, ns, rfl, hS, hl, fun _ => rfl⟩, hF⟩
