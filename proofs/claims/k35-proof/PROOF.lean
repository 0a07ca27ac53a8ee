import PyProof.Rows.All
import Wide.All
import OpenK.AllK
import Wide.FinOn
import KE.KTupSum
import KE.KRevSl
import HandS.ForMost
import HandS.StrMore
import HandS.TupSets
import HandS.TupLe
import HandS.TupAny
import HandS.OwnEq
import HandS.Style
import HandS.Defaults
import HandS.MakeKwOnly
import HandS.IsInst
import HandS.Walk
import HandS.Exc
import KE.KDictCopyH
import KE.KDictDisplayH
import KE.KDictSum
import PyProof.InstNe
import HandS.Codes
import HandS.HeadHook1
import HandS.HeadHook2
import KE.KStateDown
import Lean
import HandS.Head0
import HandS.Head1
import HandS.Head2
import HandS.HeadEnd
import PySem.Challenge.RW_discwright_k35_whole_features_are_kept_b
section
set_option Elab.async false
set_option linter.all false
set_option maxRecDepth 100000
set_option maxHeartbeats 4000000
/-! Rules of our own: an attribute as a target, xs[1::2], extend by a written tuple, sum of a tuple, len(set(..)) with doubles, name *= e. -/
namespace KR
open PySem PySem.Spec PyProof.Rows L2
section
variable {X : Cx}
/-! ### o.f as a target within a tuple -/
def gAttr (K : PySem.W.Frag) (ta : TE) (f : Str) : TG := fun v σ H Q => ta σ H fun x H1 => ∃ a C dx fs, x = .ref a ∧ H1 a = some (.ins C dx fs) ∧ Cls K C ∧ NoAttr K C f ∧ fs.length < 1000 ∧ Q σ (upd H1 a (.ins C dx (putF f v fs)))
theorem pg_attr {o : Expr} {f : Str} {pos : Pos} {ta : TE} (ha : PE X o ta) : PG X (.Attribute o f pos) (gAttr X.K ta f) := by
  refine ⟨fun pins s σ H v u Q I r h => ?_⟩
  rw [arm_assign_Attribute]
  refine wpAny_bind (wpAny_holding (thn (ha.run pins s σ H _ I h) fun ov s1 ⟨x, H1, I1, rx, a, C, dx, fs, ex, ea, c, n, l, q⟩ => ?_))
  subst ex
  obtain rfl : ov = Value.ref a := rx
  refine wpAny_bind (wpAny_standAt (wpAny_bind (wpAny_holding (setattr_ok I1 ea c n l r fun s3 I3 => ?_))))
  exact wpAny_release ⟨σ, _, I3, q⟩
/-! ### xs[1::2] -/
def odds {α : Type} : List α → List α
  | [] => []
  | [_] => []
  | _ :: y :: r => y :: odds r
theorem odds_pick {α : Type} : ∀ its : List α, (List.range (its.length / 2)).filterMap (fun k => its[1 + 2 * k]?) = odds its
  | [] => by simp [odds]
  | [x] => by simp [odds]
  | x :: y :: r => by
    have e : (x :: y :: r).length / 2 = r.length / 2 + 1 := by
      rw [List.length_cons, List.length_cons]; omega
    have ih := odds_pick r
    rw [e, List.range_succ_eq_map, List.filterMap_cons]
    show y :: ((List.range (r.length / 2)).map Nat.succ).filterMap (fun k => (x :: y :: r)[1 + 2 * k]?) = y :: odds r
    rw [List.filterMap_map, ← ih]
    congr 1
theorem odds_map {α β : Type} (f : α → β) : ∀ l : List α, odds (l.map f) = (odds l).map f
  | [] => rfl
  | [_] => rfl
  | x :: y :: r => by
    show f y :: odds (r.map f) = f y :: (odds r).map f
    rw [odds_map f r]
theorem odds_len {α : Type} : ∀ l : List α, (odds l).length = l.length / 2
  | [] => by simp [odds]
  | [x] => by simp [odds]
  | x :: y :: r => by
    show (odds r).length + 1 = (r.length + 1 + 1) / 2
    rw [odds_len r]; omega
theorem odds_vals : ∀ {xs : List V} {us : List Value}, Vals xs us → Vals (odds xs) (odds us)
  | _, _, .nil => .nil
  | _, _, .cons _ .nil => .nil
  | _, _, .cons _ (.cons r t) => .cons r (odds_vals t)
theorem bounds2 (n : Nat) : PySem.sliceBounds (some 1) none (some 2) n = (((min 1 n : Nat) : Int), (n : Int), 2) := by
  unfold PySem.sliceBounds
  have h1 : ((2 : Int) > 0) := by decide
  have h2 : ¬ ((1 : Int) < 0) := by decide
  simp only [Option.getD_some, h1, h2, if_true, if_false]
  congr 1
  omega
theorem range2 (n : Nat) : sliceRange (((min 1 n : Nat) : Int)) (n : Int) 2 = (List.range (n / 2)).map fun k => 1 + 2 * k := by
  unfold sliceRange
  have h1 : ((2 : Int) > 0) := by decide
  by_cases h : (((min 1 n : Nat) : Int)) < (n : Int)
  · have e : (((n : Int) - ((min 1 n : Nat) : Int) + 2 - 1) / 2) = ((n / 2 : Nat) : Int) := by omega
    simp only [h1, if_true, h, e, Int.toNat_natCast]
    apply List.map_congr_left
    intro k _
    omega
  · have e : n / 2 = 0 := by omega
    simp only [h1, if_true, h, if_false, e]
    rfl
theorem pick2 (items : List Value) : slicePick items.toArray (some 1) none (some 2) = (odds items).toArray := by
  unfold slicePick
  rw [bounds2]
  show ((sliceRange ((min 1 items.toArray.size : Nat) : Int) (items.toArray.size : Int) 2).filterMap (items.toArray[·]?)).toArray = _
  rw [range2, List.filterMap_map, List.size_toArray]
  congr 1
  rw [← odds_pick items]
  congr 1
  funext k
  simp
def tOdds (K : PySem.W.Frag) (te : TE) : TE := fun σ H Q => te σ H fun x H1 => ∃ a xs, x = .ref a ∧ SqL K H1 a xs ∧ ∀ p, H1 p = none → Q (.ref p) (upd H1 p (.lst (odds xs)))
theorem pe_odds {e : Expr} {te : TE} {k1 k2 : Nat} {p1 p2 p3 pos : Pos} (he : PE X e te) : PE X (.Subscript e (.Slice (some (.Constant (.int 1) k1 p1)) none (some (.Constant (.int 2) k2 p2)) p3) pos) (tOdds X.K te) := by
  refine ⟨fun pins s σ H Q I h => ?_⟩
  refine Subscript_ (thn (he.run pins s σ H _ I h) fun v s1 ⟨x, H1, I1, r1, q1⟩ => ?_)
  obtain ⟨a, xs, ex, hx, q⟩ := q1
  subst ex
  cases r1
  have hlo : PO X (some (.Constant (.int 1) k1 p1)) (tPart (tC (.int 1))) := po_some pe_int
  have hst : PO X (some (.Constant (.int 2) k2 p2)) (tPart (tC (.int 2))) := po_some pe_int
  refine wpAny_Slice (thn (hlo.run pins s1 σ H1 (fun o H2 => o = some 1 ∧ H2 = H1) I1 ⟨1, rfl, rfl, rfl⟩) fun vl s2 ⟨l, H2, I2, pl, el, e2⟩ => ?_)
  subst el e2
  refine thn (po_none.run pins s2 σ H2 (fun o H3 => o = none ∧ H3 = H2) I2 ⟨rfl, rfl⟩) fun vu s3 ⟨u, H3, I3, pu, eu, e3⟩ => ?_
  subst eu e3
  refine thn (hst.run pins s3 σ H3 (fun o H4 => o = some 2 ∧ H4 = H3) I3 ⟨2, rfl, rfl, rfl⟩) fun vs s4 ⟨o, H4, I4, ps, eo, e4⟩ => ?_
  subst eo e4
  have I5 : Inv X pins σ H4 { s4 with heap := s4.heap.push { cls := .type "slice", data := .fields #[vl, vu, vs] } } := I4.kept (t' := s4.toks) fun b ob q => Heap.get?_push_of_some _ q
  obtain ⟨its, r, ht, hz⟩ := I5.list hx
  have hlen := r.length
  show wpAny (model X.prog X.w) X.A (subscriptTail e (.Slice (some (.Constant (.int 1) k1 p1)) none (some (.Constant (.int 2) k2 p2)) p3) (.ref a) (.ref s4.heap.objs.size)) (EP X pins σ Q) X.xe { s4 with heap := s4.heap.push { cls := .type "slice", data := .fields #[vl, vu, vs] } }
  refine tail_any (ops := [.ref a, .ref s4.heap.objs.size]) ht.isList.typeIs (PySem.slot_list_getitem.lookup) ?_ (by with_unfolding_all rfl)
  refine wpAny_getItem_list_slice ht.isList (Heap.IsSliceOf.new _ vl vu vs) pl pu ps (by decide) ?_ (by rw [List.size_toArray]; omega)
  rw [pick2]
  refine ⟨.ref _, _, I5.laid (t' := s4.toks) (o := .lst (odds xs)) (fun b ob q => Heap.get?_push_of_some _ q) (Nat.le_refl _) ?_, rfl, q _ (I5.hok.fresh (Nat.le_refl _))⟩
  exact ⟨by rw [odds_len]; omega, _, 0, odds_vals r, Heap.get?_push_size _ rfl⟩
/-! ### xs.extend(t), t a tuple of the module's -/
/-- an exact tuple in the written part -/
def KTup (K : PySem.W.Frag) (b : Addr) (zs : List V) : Prop := ∃ (its : Array Value) (n : Nat), K.lookup b = some { cls := .type "tuple", dict := none, data := .seq its n, slots := #[] } ∧ its.size ≤ sizeLine ∧ Vals zs its.toList
theorem KTup.sqT {K : PySem.W.Frag} {b : Addr} {zs : List V} (h : KTup K b zs) (H : Hp) : SqT K H b zs := by
  obtain ⟨its, n, e, z, r⟩ := h
  exact .inr ⟨_, its, n, e, rfl, rfl, z, r⟩
def rExtT (K : PySem.W.Frag) : V → List V → Hp → VK → Prop := fun x vs H Q => ∃ l b xs zs, x = .ref l ∧ vs = [.ref b] ∧ H l = some (.lst xs) ∧ KTup K b zs ∧ xs.length + zs.length ≤ sizeLine ∧ Q .non (upd H l (.lst (xs ++ zs)))
theorem mt_extT : MtM X "list.extend" (rExtT X.K) := by
  intro pins s σ H x vs v us Q I rx rv h
  obtain ⟨l, b, xs, zs, rfl, rfl, hH, hB, hz, q⟩ := h
  cases rx
  obtain ⟨u, rfl, ru⟩ := rv.one
  cases ru
  obtain ⟨z, its, n, r, hl, e⟩ := I.lstM hH
  obtain ⟨its2, n2, e2, z2, r2⟩ := hB
  have hl2 := r2.length
  have hl3 : its2.toList.length = its2.size := Array.length_toList
  have e2' := I.kIn _ _ e2
  have hsz : its.toArray.size + its2.size ≤ sizeLine := by rw [List.size_toArray]; omega
  have hlong : ¬ (!its.toArray.isEmpty && Builtin.List.listTooLong (its.toArray.size + its2.size)) = true := by
    rw [notLongL hsz, Bool.and_false]
    exact Bool.false_ne_true
  refine call_meets F.slot_list_extend ⟨_, e, rfl⟩ F.entry_list_extend (F.args_list_extend_2 _ _)
    (AutoSeq1.list_extend_list_tuple_0 l its.toArray n b its2 n2 hlong (by rw [List.size_toArray]; omega) (by omega)) ⟨e, e2', ?_⟩
  refine ⟨.non, _, I.lset (its' := its ++ its2.toList) hH e (by simp) (r.append r2) ?_, rfl, q⟩
  rw [List.length_append]
  omega
/-! ### sum of a tuple of ints -/
def rSumT (K : PySem.W.Frag) : List V → Hp → VK → Prop := fun vs H Q => ∃ (a : Addr) (ns : List Int), vs = [V.ref a] ∧ SqT K H a (ns.map V.int) ∧ Q (.int ns.sum) H
theorem cr_sumT (hc : X.calm = true) : CallR X (.builtin "sum") (rSumT X.K) := by
  intro pins s σ H vs us Q I r h
  obtain ⟨a, ns, rfl, hs, q⟩ := h
  obtain ⟨its, rv, ht, _⟩ := I.tuple hs
  rw [Vals.ref1 r]
  have hi : IntsAre its ns := rv.ints
  obtain ⟨xs, hx⟩ := hi.allInts.items
  have ht' : s.heap.IsTuple a its.toArray := ht
  rw [hx] at ht'
  have hn : numsOf its.toArray.toList = ns := by rw [show its.toArray.toList = its from rfl, hi.numsOf]
  rw [hx, nums_intItems] at hn
  refine PySem.W.ktm_sumG (I.ok.hd hc) ht' fun h' tk t' hk => ?_
  rw [preSum_eq, List.take_of_length_le (by simp), hn]
  exact ⟨.int _, H, I.kept hk, ⟨_, rfl⟩, q⟩
/-! ### len(set(xs)) of ints, whatever they are -/
/-- how many different ones -/
def distinct (ns : List Int) : Nat := (firstMet (fun i => ns.getD i 0) ns.length).length
def tLenSet (K : PySem.W.Frag) (ta : TE) : TE := fun σ H Q => ta σ H fun x H1 => ∃ (l : Addr) (ns : List Int), x = V.ref l ∧ SqL K H1 l (ns.map V.int) ∧ ns.length ≤ 1000 ∧ Q (.int (distinct ns : Nat)) H1
theorem pe_lenSet {a : Expr} {ta : TE} {p p2 q pos : Pos} (hc : X.calm = true) (hg : Gl X "len") (hm : X.mg "len" = none) (hg2 : Gl X "set") (hm2 : X.mg "set" = none) (ha : PE X a ta)
    (na : starEach [a] X.env = (false, eval a X.env) :: starEach [] X.env := by rfl) : PE X (.Call (.Name "len" p) [.Call (.Name "set" p2) [a] [] q] [] pos) (tLenSet X.K ta) := by
  refine ⟨fun pins s σ H Q I h => ?_⟩
  refine Call_ (ld_blt I hg hm PySem.boot_len ?_)
  refine PyProof.Rows.callWith_builtin1 (PyProof.Rows.args_cons ?_ rfl) rfl rfl
  refine Call_ (ld_blt I hg2 hm2 PyProof.Rows.boot_set ?_)
  refine PyProof.Rows.callWith_type1 (PyProof.Rows.args_cons (thn (ha.run pins s σ H _ I h) fun v s1 ⟨x, H1, I1, r1, q1⟩ => PyProof.Rows.args_nil ?_) na) na rfl
  obtain ⟨l, ns, rfl, hq, h1, q1⟩ := q1
  cases r1
  obtain ⟨its, r, pl, hz⟩ := I1.list hq
  have hl : its.toArray.size = ns.length := by rw [List.size_toArray, ← r.length, List.length_map]
  refine call_set_list (I1.ok.hd hc) pl.isList (ns := ns) (by simpa using r.ints) (by unfold scanBound; omega) fun h' tk hS hk => ?_
  rw [hl] at hS
  refine PyProof.Rows.args_nil ?_
  have hle : (firstMet (fun i => ns.getD i 0) ns.length).length ≤ ns.length := firstMet_length_le _ _
  obtain ⟨o, es, ep, t, ho, hex, hd, _, _, _, hf, hn⟩ := hS
  have I2 : Inv X pins σ H1 { s1 with heap := h', toks := tk } := I1.kept fun b o e => hk b o (Heap.lt_size e) e
  refine call_len_set ho hex hd hf (by rw [hn] <;> omega) ⟨.int (distinct ns : Nat), H1, I2.tok _, ⟨_, by rw [hn] <;> rfl⟩, q1⟩
/-! ### name *= e -/
theorem ip_mul : PIp X .Mult (rI CMul fun i j => .int (i * j)) := fun pins s σ H x y v u Q I r1 r2 h => iop_mul pins s σ H x y v u Q I r1 r2 h
end
end KR
end

section
set_option Elab.async false
set_option linter.all false
set_option maxRecDepth 100000
set_option maxHeartbeats 4000000
/-! Rules of our own, about a dict with one key that is a tuple: display, sorted, ==; and != by an own __eq__. -/
namespace KR
open PySem PySem.Spec PyProof.Rows L2
section
variable {X : Cx}
/-! ### {(..): v} -/
def tDisp1 (tk tv : TE) : TE := fun σ H Q => ∀ p, H p = none → tk σ (upd H p (.dT [])) fun x H1 => tv σ H1 fun y H2 => H2 p = some (.dT []) ∧ ∃ (b : Addr) (k : List Key), x = .ref b ∧ H2 b = some (.tup (k.map kV)) ∧ Q (.ref p) (upd H2 p (.dT [(k, y)]))
theorem pe_disp1 {k v : Expr} {tk tv : TE} {pos : Pos} (hu : X.A.units + 1 < cLine) (hk : PE X k tk) (hv : PE X v tv)
    (hshape : (evalEachOpt [some k] X.env).zip ((evalEach [v] X.env).map fun v => do let x ← v; standAt pos; pure x) = [(eval k X.env, do let x ← eval v X.env; standAt pos; pure x)].map fun p => (some p.1, p.2) := by rfl) :
    PE X (.Dict [some k] [v] pos) (tDisp1 tk tv) := by
  refine ⟨fun pins s σ H Q I q => ?_⟩
  have hn := I.hok.fresh (Nat.le_refl s.heap.objs.size)
  have I1 := I.laid (a := s.heap.objs.size) (o := .dT []) (h' := s.heap.push { cls := .type "dict", data := .dict #[] }) (t' := s.toks) (fun _ _ q => Heap.get?_push_of_some _ q) (Nat.le_refl _) (dt_empty s.heap I.big)
  have q1 := q _ hn
  rw [arm_eval_Dict, hshape, dictDisplay_pairs _ (by simp) (by simp)]
  refine wpAny_bind (wpAny_standAt (wpAny_bind (wpAny_subDictH (knd := tupleKind (mixKind X.prog X.w)) (Q := fun d s' => wpAny (model X.prog X.w) X.A (pure (Value.ref d)) (EP X pins σ Q) X.xe s') (show X.A.units < cLine by omega) (by simp) ?_)))
  let C : List (V × V) → Hp → Prop := fun ps H2 => match ps with
    | [(x, y)] => H2 s.heap.objs.size = some (.dT []) ∧ ∃ (b : Addr) (k : List Key), x = .ref b ∧ H2 b = some (.tup (k.map kV)) ∧ Q (.ref s.heap.objs.size) (upd H2 s.heap.objs.size (.dT [(k, y)]))
    | _ => False
  have hps : PPs X pos [some k] [v] [(tk, tv)] := pps_cons hk hv pps_nil
  refine thn (hps.run pins _ σ _ C I1 q1) fun vs s2 ⟨ps, H2, I2, rel, c⟩ => ?_
  obtain ⟨x, y, e0⟩ : ∃ x y, ps = [(x, y)] := by
    match ps, c with
    | [(x, y)], _ => exact ⟨x, y, rfl⟩
  subst e0
  obtain ⟨hp, b, key, ex, hb, q2⟩ := c
  subst ex
  cases rel with
  | @cons _ vv _ _ h t =>
    cases t
    obtain ⟨h1, h2⟩ := h
    obtain ⟨kv, vl⟩ := vv
    cases (show kv = Value.ref b from h1)
    obtain ⟨z, hd, xs, r0, dd⟩ := dt_of I2.hok hp
    cases r0
    refine ⟨[(key, b, vl)], ⟨rfl, rfl, key_of I2.hok hb, trivial⟩, dd, fun h' tk dd' hs => wpAny_pure ⟨.ref s.heap.objs.size, _, ?_, rfl, q2⟩⟩
    have dd2 : h'.DictOfH (tupleKind (mixKind X.prog X.w)) s.heap.objs.size [(key, b, vl)] := dd'
    obtain ⟨o, es, ep, ho, hex, hdat, he, his, hnd⟩ := dd2
    refine d_write I2 (by rw [hp]; exact True.intro) hs ⟨o, ho⟩ ⟨by show 1 ≤ sizeLine; decide, hd, [(key, b, vl)], .cons ⟨rfl, ?_, h2⟩ .nil, o, es, ep, ho, hex, hdat, he, hnd⟩
    rw [upd_ne (ne_of hb hp (by intro z; cases z))]
    exact hb
/-! ### sorted(d), one key -/
def rSorted1 : List V → Hp → VK → Prop := fun vs H Q => ∃ (a b : Addr) (v : V) (ks : List Int), vs = [.ref a] ∧ H a = some (.dT [(ks.map Sum.inl, v)]) ∧ (ks ≠ [] ∧ ∀ m, m ∈ ks → 0 ≤ m ∧ m < 1000) ∧ ∀ (p c : Addr), H p = none → H c = some (.tup (ks.map V.int)) → Q (.ref p) (upd H p (.lst [.ref c]))
theorem kv_ints (ks : List Int) : (ks.map (Sum.inl : Int → Key)).map kV = ks.map V.int := by
  rw [List.map_map]; rfl
theorem cr_sorted1 (hc : X.calm = true) : CallR X (.builtin "sorted") rSorted1 := by
  intro pins s σ H xs us Q I r h
  obtain ⟨a, b, v, ks, rfl, ha, ⟨hne, hbd⟩, q⟩ := h
  rw [Vals.ref1 r]
  obtain ⟨z, lo, xs, rel, dd⟩ := dt_of I.hok ha
  cases rel with
  | @cons _ x _ _ hx t =>
    cases t
    obtain ⟨k, c, u⟩ := x
    obtain ⟨e1, e2, e3⟩ := hx
    simp only at e1 e2 e3
    subst e1
    obtain ⟨o, es, ep, ho, hex, hdat, he, his, hnd⟩ := dd
    have hes : es.toList = [entryOfKey (tupleKind (mixKind X.prog X.w)) (ks.map Sum.inl, c, u)] := he
    have hsz : es.size = 1 := by rw [← Array.length_toList, hes]; rfl
    refine Calls.call_function_entry PyProof.Rows.kind_sorted PyProof.Rows.plain_sorted PyProof.Rows.entry_sorted (PyProof.Rows.args_sorted1 _) ?_
    unfold Builtin.«sorted»
    refine wpAny_bind (m := checkCount "sorted" 1 1 _) (wpAny_pure ?_)
    refine wpAny_bind (PySem.W.kdu_collect (A := X.A.in1) (PySem.KdlSrc.rawDict (prog := X.prog) (w := X.w) (d := a) (es := es) (ep := ep) lo) (I.ok.hd hc) ⟨o, ho, hex, hdat⟩ (by rw [hsz]; decide) fun h' tk acc hk hacc => ?_)
    have hc0 : es[0]'(by rw [hsz]; decide) = entryOfKey (tupleKind (mixKind X.prog X.w)) (ks.map Sum.inl, c, u) := by
      have e0 : es.toList[0]? = some (entryOfKey (tupleKind (mixKind X.prog X.w)) (ks.map Sum.inl, c, u)) := by rw [hes]; rfl
      rw [Array.getElem?_toList, Array.getElem?_eq_getElem (by rw [hsz]; decide)] at e0
      exact Option.some.inj e0
    have hacc2 : acc.toList = [Value.ref c] := by
      obtain ⟨h1, h2⟩ := hacc
      rw [hsz] at h1
      have hl : acc.toList.length = 1 := by rw [Array.length_toList, h1]
      match hq : acc.toList, hl with
      | [v0], _ =>
        have e1 : acc[0]? = some v0 := by rw [← Array.getElem?_toList, hq]; rfl
        obtain ⟨hi, e2⟩ := h2 0 v0 e1
        rw [hc0] at e2
        rw [e2] <;> rfl
    rw [hacc2]
    have hcT : TS.TupInts h' (.ref c) ks := by
      obtain ⟨_, its, rv, oc, g1, g2, g3⟩ := (show ObjOk X.prog X.w H s.heap c (.tup ((ks.map Sum.inl).map kV)) from I.hok c _ e2)
      rw [kv_ints] at rv
      exact ⟨c, its.toArray, rfl, ⟨oc, hk _ _ g1, g2, g3⟩, rv.ints⟩
    refine wpAny_bind (wpAny_newList ?_ (by show 1 ≤ sizeLine; decide))
    have hoL : (h'.push (seqObj "list" [Value.ref c].toArray 0)).get? h'.objs.size = some (seqObj "list" [Value.ref c].toArray 0) := Heap.get?_push_size _ rfl
    have kp : ∀ b o, h'.get? b = some o → (h'.push (seqObj "list" [Value.ref c].toArray 0)).get? b = some o := fun b o e => Heap.get?_push_of_some _ e
    have hlen : 1 ≤ ks.length := by
      cases ks with
      | nil => exact absurd rfl hne
      | cons _ _ => simp
    have I1 : Inv X pins σ H { s with heap := h', toks := tk } := I.kept hk
    show wpAny _ _ _ _ _ { s with heap := h'.push (seqObj "list" [Value.ref c].toArray 0), toks := tk }
    refine wpAny_bind (wpAny_holding (TS.call_sort_tups (s := { s with heap := h'.push (seqObj "list" [Value.ref c].toArray 0), toks := tk }) hoL (by show 1 < 64; decide) hlen (B := 1000) (fun v hv => ?_) fun out h1 _ => ?_))
    · rw [List.mem_singleton.mp hv]
      exact ⟨ks, hcT.keeps fun b o e _ => kp b o e, rfl, hbd⟩
    · have hout : out.toList = [Value.ref c] := List.perm_singleton.mp h1
      obtain ⟨e', he'⟩ := PyProof.Rows.sortedHeap_at (vs := [Value.ref c]) (out := out) hoL
      refine wpAny_pure ⟨_, rfl, .ref h'.objs.size, upd H h'.objs.size (.lst [.ref c]), I1.laid (t' := tk) (fun b u e => ?_) (Nat.le_refl _)
        (show ObjOk X.prog X.w _ _ _ (.lst [.ref c]) from ⟨by show 1 ≤ sizeLine; decide, out.toList, e', by rw [hout]; exact .cons rfl .nil, by rw [Array.toArray_toList]; exact he'⟩), rfl, q _ c (I1.hok.fresh (Nat.le_refl _)) (by rw [← kv_ints]; exact e2)⟩
      have hb : b < h'.objs.size := Heap.lt_size e
      rw [PyProof.Rows.sortedHeap_old (Nat.ne_of_lt hb) (by rw [size_push']; exact Nat.lt_succ_of_lt hb)]
      exact Heap.get?_push_of_some _ e
/-! ### d == e, one key each: a tuple -/
def rEq1 (D : Eqv) : R2 := fun x y H Q => ∃ (a b : Addr) (k : List Key) (v u : V), x = .ref a ∧ y = .ref b ∧ a ≠ b ∧ H a = some (.dT [(k, v)]) ∧ H b = some (.dT [(k, u)]) ∧
  (∀ od, D v u (upd H a (.frz od (.dT [(k, v)])))) ∧ ∀ H', Ext H H' → Q (.bl true) H'
theorem op_eq1 {n : Nat} {D : Eqv} (h : EqG X n D) (hr : Room (n + 2) X.A) : OpR X (compareOp .Eq) (rEq1 D) := by
  intro pins s σ H x y vx vy Q I rx ry hq
  obtain ⟨a, b, k, v, u, rfl, rfl, hab, ha, hb, hD, q⟩ := hq
  cases rx
  cases ry
  obtain ⟨od, I1⟩ := I.lock ha True.intro
  have hb1 : (upd H a (.frz od (.dT [(k, v)]))) b = some (.dT [(k, u)]) := by rw [upd_ne (Ne.symm hab)]; exact hb
  have ha1 : (upd H a (.frz od (.dT [(k, v)]))) a = some (.frz od (.dT [(k, v)])) := upd_same
  obtain ⟨za, loa, xa, ra, da⟩ := dt_rd I1.hok (Or.inr ⟨od, ha1⟩)
  obtain ⟨zb, lob, xb, rb, db⟩ := dt_of I1.hok hb1
  cases ra with
  | @cons _ x1 _ _ hx1 t1 =>
  cases t1
  cases rb with
  | @cons _ x2 _ _ hx2 t2 =>
  cases t2
  obtain ⟨k1, c1, u1⟩ := x1
  obtain ⟨k2, c2, u2⟩ := x2
  obtain ⟨e1, e2, e3⟩ := hx1
  obtain ⟨g1, g2, g3⟩ := hx2
  simp only at e1 e2 e3 g1 g2 g3
  subst e1 g1
  have da0 := da
  have db0 := db
  obtain ⟨oa, es, ep, hoa, hexa, hdata, hea, hisa, hnda⟩ := da
  obtain ⟨ob, es', ep', hob, hexb, hdatb, heb, hisb, hndb⟩ := db
  have hsa : es.size = 1 := by rw [← Array.length_toList, hea]; rfl
  have hsb : es'.size = 1 := by rw [← Array.length_toList, heb]; rfl
  have eod : oa = od := by
    obtain ⟨e, _⟩ := I1.hok a _ ha1
    rw [hoa] at e
    exact Option.some.inj e
  have ga : es[0]? = some (entryOfKey (tupleKind (mixKind X.prog X.w)) (k, c1, u1)) := by rw [← Array.getElem?_toList, hea]; rfl
  have gb : es'[0]? = some (entryOfKey (tupleKind (mixKind X.prog X.w)) (k, c2, u2)) := by rw [← Array.getElem?_toList, heb]; rfl
  have hu : X.A.units + 1 < cLine := hu_of (hr.mono (by omega : 1 ≤ n + 2))
  have sb : Sub X n X.A.in1 := ⟨(hr.in1).mono (by omega), rfl⟩
  have fin : ∀ (H2 : Hp) (s2 : Shared), L2.Inv X pins σ H2 s2 → Ext (upd H a (.frz od (.dT [(k, v)]))) H2 → EP X pins σ Q (.bool true) s2 := fun H2 s2 I2 e => by
    refine ⟨.bl true, _, I2.unlock (e _ _ ha1) (I.nofrz ha True.intro), rfl, q _ fun b' o' e' => ?_⟩
    by_cases hb' : b' = a
    · subst hb'
      rw [upd_same, ← e', ha]
    · rw [upd_ne hb']
      exact e _ _ (by rw [upd_ne hb']; exact e')
  show wpAny (model X.prog X.w) X.A (richCompare .Eq (.ref a) (.ref b)) (EP X pins σ Q) X.xe s
  refine wpAny_richCompare_same_room (op := .Eq) da0.typeIs db0.typeIs PySem.F.slot_dict_eq (wpAny_call_entry PySem.F.slot_dict_eq da0.typeIs PySem.F.entry_dict_eq ?_ (PySem.F.args_dict_eq_2 _ _)) (by omega)
  show wpAny _ _ (Builtin.Dict.dictSlotArgs "__eq__" ⟨[.ref a, .ref b], []⟩ >>= _) _ _ s
  refine wpAny_bind ?_
  unfold Builtin.Dict.dictSlotArgs
  refine wpAny_bind (wpAny_notOrdered_dict da0.typeIs ?_)
  show wpAny _ _ (pure (Value.ref a, Value.ref b)) _ _ s
  refine wpAny_pure ?_
  refine wpAny_bind (wpAny_isInstance (T := "dict") db0.typeIs PySem.F.sub_dict_dict ?_)
  simp only [Bool.not_true, Bool.false_eq_true, if_false]
  refine wpAny_bind (wpAny_pure (wpAny_bind (wpAny_pure ?_)))
  refine wpAny_bind ?_
  unfold Builtin.Dict.samePairs Builtin.Dict.showsAll
  rw [if_neg (show ¬ (a == sysModules) = true by rw [loa]; exact Bool.false_ne_true), if_neg (show ¬ (b == sysModules) = true by rw [lob]; exact Bool.false_ne_true)]
  refine wpAny_bind (wpAny_pure (wpAny_bind (wpAny_pure ?_)))
  refine wpAny_bind (wpAny_dictEntries hoa hdata ?_)
  dsimp only
  refine wpAny_bind (wpAny_dictEntries hob hdatb ?_)
  rw [if_neg (by rw [hsa, hsb]; simp)]
  refine wpAny_bind (wpAny_dictEpoch hoa hdata ?_)
  refine wpAny_bind ?_
  rw [Std.Legacy.Range.forIn_eq_forIn_range']
  simp only [Std.Legacy.Range.size, Nat.sub_zero, Nat.add_sub_cancel, Nat.div_one, hsa]
  refine wpAny_forIn_list _
    (fun rest q s' => q = (none, ()) ∧ ((rest = [0] ∧ s' = s) ∨ (rest = [] ∧ ∃ H2, L2.Inv X pins σ H2 s' ∧ Ext (upd H a (.frz od (.dT [(k, v)]))) H2)))
    _ ?_ ?_ _ _ ⟨rfl, .inl ⟨rfl, rfl⟩⟩
  · rintro x rest q s' ⟨rfl, hq⟩
    rcases hq with ⟨hr0, es0⟩ | ⟨hr0, _⟩
    case inr => cases hr0
    injection hr0 with hx0 hrest
    subst hx0 hrest es0
    refine wpAny_bind (wpAny_dictEntries hoa hdata ?_)
    rw [ga]
    show wpAny _ _ (holding [_, _] _ >>= _) _ _ _
    refine wpAny_bind (wpAny_holding (wpAny_bind (wpAny_dictFind_heap (knd := tupleKind (mixKind X.prog X.w)) (k := k) (show X.A.in1.units < cLine from hu) (hisa _ List.mem_cons_self) hob hdatb heb hisb hndb (fun no => absurd rfl (no 0 (c2, u2))) fun j p hj => ?_)))
    have hj0 : j = 0 ∧ p = (c2, u2) := by
      match j, hj with
      | 0, hj => exact ⟨rfl, by have := Option.some.inj hj; injection this with _ h2; exact h2.symm⟩
      | j + 1, hj => simp at hj
    obtain ⟨rfl, rfl⟩ := hj0
    refine wpAny_bind (wpAny_dictEntries hob hdatb ?_)
    rw [gb]
    show wpAny _ _ (holding [u2] (eqBool u1 u2)) _ _ _
    refine wpAny_holding (wpAny_mono (h X.A.in1 pins _ σ _ v u u1 u2 sb I1 e3 g3 (hD od)) (fun r s2 hr2 => ?_) fun _ _ x => x)
    obtain ⟨rfl, H2, I2, ex⟩ := hr2
    show wpAny _ _ (if (!true) = true then _ else _) _ _ _
    rw [if_neg (by decide)]
    obtain ⟨e9, _⟩ := I2.hok a _ (ex _ _ ha1)
    rw [← eod] at e9
    refine wpAny_bind (wpAny_dictEpoch e9 hdata ?_)
    rw [if_neg (by simp)]
    exact wpAny_pure ⟨rfl, .inr ⟨rfl, H2, I2, ex⟩⟩
  · rintro q s' ⟨rfl, hq⟩
    rcases hq with ⟨hr0, _⟩ | ⟨_, H2, I2, ex⟩
    · cases hr0
    · refine wpAny_pure (wpAny_pure ⟨_, rfl, ?_, ?_⟩)
      · exact fun x => nomatch x
      · exact fin H2 s' I2 ex
end
end KR
end

section
set_option Elab.async false
set_option linter.all false
set_option maxRecDepth 100000
set_option maxHeartbeats 4000000
/-! Rules of our own: != by an own __eq__ (object.__ne__). -/
namespace KR
open PySem PySem.Spec PyProof.Rows L2 PySem.W
section
variable {prog : Program} {w : World} {A : Around} {E : Value → Shared → Prop} {s : Shared} {K : Frag} {x C f : Addr} {ox : Obj} {od : Option Obj} {name : Str} {b : Value}
theorem ifBoundB_K {M : Model} {args : List Value} {id : String} {T : String} {Q : Option Value → Shared → Prop} (X : K.In s.heap) (I : InstAt s.heap x ox C od) (hs : findIn K (.ref C) name = some (some (.builtin id))) (S : Slot T name id)
    (h : wpAny M A (call (.builtin id) (.ref x :: args)) (fun v => Q (some v)) E s) : wpAny M A (callSpecialIfBound? (.ref x) name args) Q E s := by
  simp only [callSpecialIfBound?, bindSpecialIfBound?]
  refine wpAny_holding (wpAny_bind (wpAny_bind (wpAny_bind (I.type.here ((looks_findIn X hs).here ?_)))))
  simp only [S.bind]
  refine wpAny_bind (wpAny_askSetting (wpAny_ite ?_))
  have fin : wpAny M A (call (.builtin id) ([.ref x] ++ args) >>= fun v => pure (some v)) Q E s := wpAny_bind (wpAny_mono h (fun v s' h' => wpAny_pure h') fun _ _ h' => h')
  split
  · exact wpAny_bind (wpAny_pure (wpAny_pure fin))
  · exact wpAny_tryCatch (wpAny_bind (wpAny_pure (wpAny_pure fin)))
theorem check_K {M : Model} {id owner n : String} {rest : List Value} {Q : Unit → Shared → Prop} (X : K.In s.heap) (I : InstAt s.heap x ox C od) (hk : builtinKind id = some .slot) (hs : splitId id = some (owner, n))
    (ha : argsOk id ⟨.ref x :: rest, []⟩) (hob : subIn K (.ref C) (.type owner) = some true) (hq : Q () s) :
    wpAny M A (checkBuiltinCall id ⟨.ref x :: rest, []⟩) Q E s := by
  have hL : Looks M s.heap (isInstance (.ref x) (.type owner)) true := (I.type).andThen (looks_subIn X hob)
  simp only [checkBuiltinCall, hk, hs]
  refine wpAny_bind (hL.here ?_)
  · rw [if_neg (by decide)]
    cases hsig : Manifest.signature? id with
    | none => exact wpAny_pure hq
    | some sig =>
      simp only [argsOk, hsig] at ha
      have h2 : Bind.checkArgs id sig ⟨.ref x :: rest, []⟩ = pure () := ha
      show wpAny M A (Bind.checkArgs id sig ⟨.ref x :: rest, []⟩) Q E _
      rw [h2]; exact wpAny_pure hq
/-- x != y by the own __eq__ of x's class -/
theorem ne_K {Q : Value → Shared → Prop} {y : Addr} {oy : Obj} {od' : Option Obj} (hu : A.units + 1 < cLine) (X : K.In s.heap) (I : InstAt s.heap x ox C od) (J : InstAt s.heap y oy C od')
    (hne : findIn K (.ref C) "__ne__" = some (some (.builtin "object.__ne__"))) (hob : subIn K (.ref C) (.type "object") = some true)
    (hs : findIn K (.ref C) "__eq__" = some (some (.ref f))) (hf : isFn K (.ref f) = true)
    (h : wpAny (model prog w) A.in1 (call (.ref f) [.ref x, .ref y]) (fun v s' => ∃ b, v = .bool b ∧ Q (.bool (!b)) s') E s) : wpAny (model prog w) A (compareOp .NotEq (.ref x) (.ref y)) Q E s := by
  have one : wpAny (model prog w) A (tryCompare (.ref x) "__ne__" (.ref y)) (fun r s' => ∃ v, r = some v ∧ Q v s') E s := by
    unfold tryCompare
    refine wpAny_bind (ifBoundB_K X I hne F.cmp_object.ne (wpAny_call (codeAny_call_builtin F.cmp_object.ne.plain F.cmpEntry_ne (check_K X I F.cmpKind_ne F.cmpSplit_ne (F.cmpArgs_ne _ _) hob ?_))))
    unfold Builtin.«object.__ne__»
    refine wpAny_bind (wpAny_pure ?_)
    refine wpAny_bind (wpAny_cRoomFor (show A.in1.units < cLine from hu) ?_)
    refine wpAny_bind (ifBound_K X I hs hf (wpAny_mono h (fun v s' hv => ?_) fun _ _ e => e))
    obtain ⟨b, rfl, hq⟩ := hv
    refine wpAny_bind (wpAny_truthy_bool (wpAny_pure ?_))
    exact wpAny_pure ⟨_, rfl, hq⟩
  unfold compareOp richCompare
  simp only [oneThing_ref]
  refine wpAny_holding (wpAny_bind (wpAny_cRoomFor (Nat.lt_of_succ_lt hu) ?_))
  refine wpAny_bind (I.type.here (wpAny_bind (J.type.here ?_)))
  rw [show (Value.ref C != Value.ref C) = false from by simp]
  simp only [Bool.false_eq_true, if_false]
  refine wpAny_bind (wpAny_pure ?_)
  simp only [Bool.false_eq_true, if_false]
  refine wpAny_bind (wpAny_mono one (fun r s' z => ?_) fun _ _ e => e)
  obtain ⟨v, rfl, hq⟩ := z
  exact wpAny_pure hq
end
section
variable {X : Cx}
/-- x != y of two instances of the class at C that its own __eq__ finds equal -/
def rNeG (C : Addr) (R : Addr → Addr → Hp → Prop) : R2 := fun x y H Q => ∃ a b dx dy fs gs, x = .ref a ∧ y = .ref b ∧ H a = some (.ins C dx fs) ∧ H b = some (.ins C dy gs) ∧ R a b H ∧ ∀ H', Ext H H' → Q (.bl false) H'
theorem op_neG {CX : CXT} {n : Nat} {C f : Addr} {fd : FuncData} {ps : List Str} {R : Addr → Addr → Hp → Prop} {E : XK} (F : FnOk X.prog X.w X.K X.mg X.base CX n f fd ps (spEq R)) (hr : Room (n + 2) X.A)
    (hne : findIn X.K (.ref C) "__ne__" = some (some (.builtin "object.__ne__"))) (hob : subIn X.K (.ref C) (.type "object") = some true)
    (hs : findIn X.K (.ref C) "__eq__" = some (some (.ref f))) (hf : isFn X.K (.ref f) = true) (hb : Binds X.K fd ps []) (hx : Passes CX X E) : OpR X (compareOp .NotEq) (rNeG C R) := by
  intro pins s σ H x y v u Q I rx ry hq
  obtain ⟨a, b, dx, dy, fs, gs, rfl, rfl, ha, hb', hR, q⟩ := hq
  cases rx
  cases ry
  obtain ⟨mA, J, _⟩ := ins_get I.hok ha
  obtain ⟨mB, J', _⟩ := ins_get I.hok hb'
  obtain ⟨od, J, _⟩ := J.look
  obtain ⟨od', J', _⟩ := J'.look
  refine ne_K (hu_of (hr.mono (by omega : 1 ≤ n + 2))) I.kIn J J' hne hob hs hf ?_
  have hsp : spEq R [.ref a, .ref b] H (fun v H' => v = .bl true ∧ Ext H H') E := ⟨a, b, rfl, hR, fun H' e => ⟨rfl, e⟩⟩
  have e0 : Env0 X.prog X.w X.K X.mg X.base X.A.in1 X.stack s H := I.env0.in1
  have hl := F.len _ _ _ _ hsp
  have r2 : Vals [V.ref a, V.ref b] [Value.ref a, Value.ref b] := .cons rfl (.cons rfl .nil)
  refine wpAny_call (codeAny_mono (F.run X.A.in1 X.stack s H ⟨[.ref a, .ref b], []⟩ [.ref a, .ref b] [.ref a, .ref b] _ E ((hr.in1).mono (by omega)) e0 (by
    have := hb s [.ref a, .ref b] I.kIn (by simpa using hl)
    simpa using this) r2 hsp) fun r s' hq => ?_)
  cases r with
  | error e => exact hx pins σ H s e s' I hq
  | ok fl =>
    cases fl with
    | ret w =>
      obtain ⟨z, H', I', rz, ez, ex⟩ := I.after hq
      subst ez
      cases rz
      exact ⟨true, rfl, .bl false, H', I', rfl, q H' ex⟩
    | next => exact False.elim hq
    | brk => exact False.elim hq
    | cont => exact False.elim hq
end
end KR
end

section
set_option Elab.async false
set_option linter.all false
set_option maxRecDepth 100000
set_option maxHeartbeats 4000000
/-! The text by places, the facts that the walks lean on, the call rules over them. Printed by gen4.py. -/
namespace KW
open PySem PySem.Spec PyProof.Rows L2 KR
def top (i : Nat) : Stmt := PySem.Challenge.pw_discwright_k35_whole_features_are_kept_b.main.body.getD i (.Pass ⟨0, 0, 0, 0⟩)

abbrev s_Read_init : Stmt := inClass (top 14) 0
abbrev s_Read_eq : Stmt := inClass (top 14) 1
abbrev s_demand_cell : Stmt := top 15
abbrev s_flux_of : Stmt := top 16
abbrev s_fixed_cells : Stmt := top 17
abbrev s_shortest : Stmt := top 18
abbrev s_weak_places : Stmt := top 19
abbrev s_byte_bits : Stmt := top 26
abbrev s_bits_byte : Stmt := top 27
abbrev s_exclusive : Stmt := top 28
abbrev s_step : Stmt := top 29
abbrev s_crc : Stmt := top 30
abbrev s_two_bytes : Stmt := top 31
abbrev s_all_bits : Stmt := top 33
abbrev s_whole_bytes : Stmt := top 34
abbrev s_clock_for : Stmt := top 35
abbrev s_mfm_cells : Stmt := top 36
abbrev s_read_mfm : Stmt := top 37
abbrev s_Sector_init : Stmt := inClass (top 52) 0
abbrev s_data_length : Stmt := top 53
abbrev s_is_sector : Stmt := top 54
abbrev s_demand_sectors : Stmt := top 55
abbrev s_sector_length : Stmt := top 56
abbrev s_track_bytes : Stmt := top 57
abbrev s_Writer_init : Stmt := inClass (top 58) 0
abbrev s_Writer_plain : Stmt := inClass (top 58) 1
abbrev s_Writer_field : Stmt := inClass (top 58) 2
abbrev s_track_cells : Stmt := top 59
abbrev s_mark_places : Stmt := top 60
abbrev s_bytes_at : Stmt := top 61
abbrev s_is_checked : Stmt := top 62
abbrev s_data_behind : Stmt := top 63
abbrev s_Finder_init : Stmt := inClass (top 64) 0
abbrev s_Finder_first_byte : Stmt := inClass (top 64) 1
abbrev s_Finder_look : Stmt := inClass (top 64) 2
abbrev s_Finder_take_address : Stmt := inClass (top 64) 3
abbrev s_Finder_take_data : Stmt := inClass (top 64) 4
abbrev s_found_sectors : Stmt := top 65
abbrev s_found_in : Stmt := top 67
abbrev s_weak_runs : Stmt := top 70
abbrev s_good_sectors : Stmt := top 71
abbrev s_all_addresses : Stmt := top 72
abbrev s_doubled : Stmt := top 73
abbrev s_views_with : Stmt := top 74
abbrev s_is_wrong : Stmt := top 75
abbrev s_is_empty : Stmt := top 76
abbrev s_features : Stmt := top 77
abbrev s_is_weak_bit : Stmt := top 78
abbrev s_weakened : Stmt := top 79
abbrev s_protected_cells : Stmt := top 80
abbrev s_write_number : Stmt := top 83
abbrev s_read_number : Stmt := top 84
abbrev s_is_note : Stmt := top 92
abbrev s_is_place : Stmt := top 93
abbrev s_Image_init : Stmt := inClass (top 94) 0
abbrev s_Image_eq : Stmt := inClass (top 94) 1
abbrev s_Image_places : Stmt := inClass (top 94) 2
abbrev s_Image_reads : Stmt := inClass (top 94) 3
abbrev s_back_count : Stmt := top 95
abbrev s_read_bytes : Stmt := top 96
abbrev s_track_part : Stmt := top 97
abbrev s_first_bytes_of : Stmt := top 98
abbrev s_sealed : Stmt := top 99
abbrev s_image_bytes : Stmt := top 100
abbrev s_ImageReader_init : Stmt := inClass (top 101) 0
abbrev s_ImageReader_number : Stmt := inClass (top 101) 1
abbrev s_ImageReader_take : Stmt := inClass (top 101) 2
abbrev s_ImageReader_read_intervals : Stmt := inClass (top 101) 3
abbrev s_ImageReader_read_read : Stmt := inClass (top 101) 4
abbrev s_ImageReader_read_track : Stmt := inClass (top 101) 5
abbrev s_ImageReader_read_count : Stmt := inClass (top 101) 6
abbrev s_ImageReader_skip_track : Stmt := inClass (top 101) 7
abbrev s_codes_text : Stmt := top 102
abbrev s_read_first : Stmt := top 103
abbrev s_right_track : Stmt := top 104
abbrev s_read_tracks : Stmt := top 105
abbrev s_read_image : Stmt := top 106
abbrev s_law_made : Stmt := top 108
abbrev s_law_pool : Stmt := top 109
abbrev s_law_spread : Stmt := top 110
abbrev s_law_draw : Stmt := top 111
abbrev s_law_same : Stmt := top 112
abbrev s_law_weak_of : Stmt := top 113
abbrev s_law_plan : Stmt := top 114
abbrev s_law : Stmt := top 115
/-- the function object at a place -/
def fdOf (K : PySem.W.Frag) (p : Str × Option Str) : FuncData := match K.lookup (He.fAd K p) with
  | some ⟨_, _, .func fd, _⟩ => fd
  | _ => PySem.W.fnOf "" "" (defArgs (.Pass ⟨0, 0, 0, 0⟩)) [] (defScope (.Pass ⟨0, 0, 0, 0⟩)) .none .none .none .none none .none .none
/-- a def of the top -/
structure Fn (K : PySem.W.Frag) (mg : Str → Option Value) (x : Str) (st : Stmt) (ps : List Str) : Prop where
  F : FunD K x x (defArgs st) (defBody st) (defScope st) [] [] (He.ga K x) (fdOf K (x, none))
  g : mg x = some (.ref (He.ga K x))
  b : Binds K (fdOf K (x, none)) ps []
/-- .. with one keyword-only parameter, y = v -/
structure FnK (K : PySem.W.Frag) (mg : Str → Option Value) (x : Str) (st : Stmt) (ps : List Str) (n : Nat) (y : Str) (v : V) : Prop where
  F : FunD K x x (defArgs st) (defBody st) (defScope st) [] [(y, v)] (He.ga K x) (fdOf K (x, none))
  g : mg x = some (.ref (He.ga K x))
  b : ∃ ds, Vals [v] ds ∧ Binds K (fdOf K (x, none)) ps ds
  bk : KBn K (fdOf K (x, none)) ps n [y] (fun us ws => us ++ ws) (fun vs zs => vs ++ zs)
/-- a method m, its qualified name q -/
structure Mt (K : PySem.W.Frag) (C m q : Str) (st : Stmt) (ps : List Str) : Prop where
  F : FunD K m q (defArgs st) (defBody st) (defScope st) [] [] (He.ma K (He.ga K C) m) (fdOf K (C, some m))
  M : Meth K (He.ga K C) m (He.ma K (He.ga K C) m)
  b : Binds K (fdOf K (C, some m)) ps []
/-- an __init__ with two keyword-only parameters -/
structure MtK (K : PySem.W.Frag) (C m q : Str) (st : Stmt) (ps : List Str) (n : Nat) (kws : List (Str × V)) : Prop where
  F : FunD K m q (defArgs st) (defBody st) (defScope st) [] kws (He.ma K (He.ga K C) m) (fdOf K (C, some m))
  bk : KBn K (fdOf K (C, some m)) ps n (kws.map (·.1)) (fun us ws => us ++ ws) (fun vs zs => vs ++ zs)
/-- a class -/
structure Cl (K : PySem.W.Frag) (mg : Str → Option Value) (C : Str) : Prop where
  cl : Cls K (He.ga K C)
  g : mg C = some (.ref (He.ga K C))
  mk' : Mk K (He.ga K C) (He.ma K (He.ga K C) "__init__")
abbrev Ok (P : Program) (w : World) (K : PySem.W.Frag) (mg : Str → Option Value) (base : Heap) (n : Nat) (x : Str) (ps : List Str) (sp : Sp) : Prop := FnOk P w K mg base CX0 n (He.ga K x) (fdOf K (x, none)) ps sp
abbrev OkM (P : Program) (w : World) (K : PySem.W.Frag) (mg : Str → Option Value) (base : Heap) (n : Nat) (C m : Str) (ps : List Str) (sp : Sp) : Prop := FnOk P w K mg base CX0 n (He.ma K (He.ga K C) m) (fdOf K (C, some m)) ps sp
section
variable {X : Cx} {x C m q : Str} {st : Stmt} {ps : List Str} {sp : Sp} {n k j : Nat} {p pos apos : Pos} {e o : Expr} {es : List Expr} {kws : List Keyword} {t tk : TA} {ta : TE} {y : Str} {v : V}
/-- a module's int, tuple, class -/
theorem pgi {i : Int} (h : ∃ t, X.mg x = some (.int i t)) (hg : Gl X x := by rfl) (hd : (x == ("__debug__" : Str)) = false := by decide) : PE X (.Name x pos) (tC (.int i)) :=
  let ⟨t, e⟩ := h
  pe_glob hg e ⟨t, rfl⟩ hd
theorem pgs {i : Str} (h : ∃ t, X.mg x = some (.str i t)) (hg : Gl X x := by rfl) (hd : (x == ("__debug__" : Str)) = false := by decide) : PE X (.Name x pos) (tC (.str i)) :=
  let ⟨t, e⟩ := h
  pe_glob hg e ⟨t, rfl⟩ hd
theorem pgT {a : Addr} {zs : List V} (h : X.mg x = some (.ref a) ∧ KTup X.K a zs) (hg : Gl X x := by rfl) (hd : (x == ("__debug__" : Str)) = false := by decide) : PE X (.Name x pos) (tC (.ref a)) := pe_glob hg h.1 rfl hd
theorem pgc (h : KW.Cl X.K X.mg x) (hg : Gl X x := by rfl) (hd : (x == ("__debug__" : Str)) = false := by decide) : PE X (.Name x pos) (tC (.ref (He.ga X.K x))) := pe_glob hg h.g rfl hd
theorem pgty {T : String} (h : X.mg x = none) (hv : bootBuiltins x = some (.type T)) (hg : Gl X x := by rfl) (hn : x ≠ "__name__" := by decide) (hd : (x == ("__debug__" : Str)) = false := by decide) : PE X (.Name x pos) (tC (.ty T)) := pe_bltn hg h hv rfl hn hd
end

def vals_BIT_WEIGHTS : List Int := [128, 64, 32, 16, 8, 4, 2, 1]
def vals_MARK_CELLS : List Int := [0, 1, 0, 0, 0, 1, 0, 0, 1, 0, 0, 0, 1, 0, 0, 1]
def vals_THREE_MARKS : List Int := [0, 1, 0, 0, 0, 1, 0, 0, 1, 0, 0, 0, 1, 0, 0, 1, 0, 1, 0, 0, 0, 1, 0, 0, 1, 0, 0, 0, 1, 0, 0, 1, 0, 1, 0, 0, 0, 1, 0, 0, 1, 0, 0, 0, 1, 0, 0, 1]
def vals_POWERS_tracks : List Int := [1, 2, 4, 8, 16, 32]
def vals_POWERS_protection : List Int := [1, 2, 4, 8, 16, 32, 64, 128]
def val_SIGNS : Str := " !\"#$&'()*+,-./0123456789:;<=>?@ABCDEFGHIJKLMNOPQRSTUVWXYZ[\\]^_`abcdefghijklmnopqrstuvwxyz{|}~"
def vals_FIRST_BYTES : List Int := [68, 87, 73]
structure T (K : PySem.W.Frag) (mg : Str → Option Value) : Prop where
  f_Read_init : Mt K "Read" "__init__" "Read.__init__" s_Read_init ["self", "intervals", "rest"]
  f_Read_eq : Mt K "Read" "__eq__" "Read.__eq__" s_Read_eq ["self", "other"]
  f_demand_cell : Fn K mg "demand_cell" s_demand_cell ["cell"]
  f_flux_of : Fn K mg "flux_of" s_flux_of ["cells", "cell"]
  f_fixed_cells : Fn K mg "fixed_cells" s_fixed_cells ["read", "cell"]
  f_shortest : Fn K mg "shortest" s_shortest ["lists"]
  f_weak_places : Fn K mg "weak_places" s_weak_places ["lists"]
  f_byte_bits : Fn K mg "byte_bits" s_byte_bits ["value"]
  f_bits_byte : Fn K mg "bits_byte" s_bits_byte ["bits"]
  f_exclusive : Fn K mg "exclusive" s_exclusive ["first", "second"]
  f_step : Fn K mg "step" s_step ["number", "value"]
  f_crc : Fn K mg "crc" s_crc ["values"]
  f_two_bytes : Fn K mg "two_bytes" s_two_bytes ["number"]
  f_all_bits : Fn K mg "all_bits" s_all_bits ["values"]
  f_whole_bytes : Fn K mg "whole_bytes" s_whole_bytes ["bits"]
  f_clock_for : Fn K mg "clock_for" s_clock_for ["before", "bit"]
  f_mfm_cells : FnK K mg "mfm_cells" s_mfm_cells ["values", "before"] 1 "before" (.int 0)
  f_read_mfm : FnK K mg "read_mfm" s_read_mfm ["cells", "before"] 1 "before" (.int 0)
  f_Sector_init : MtK K "Sector" "__init__" "Sector.__init__" s_Sector_init ["self", "address", "data", "address_wrong", "data_wrong"] 3 [("address_wrong", .bl false), ("data_wrong", .bl false)]
  f_data_length : Fn K mg "data_length" s_data_length ["size"]
  f_is_sector : Fn K mg "is_sector" s_is_sector ["sector"]
  f_demand_sectors : Fn K mg "demand_sectors" s_demand_sectors ["sectors"]
  f_sector_length : Fn K mg "sector_length" s_sector_length ["sector"]
  f_track_bytes : Fn K mg "track_bytes" s_track_bytes ["sectors"]
  f_Writer_init : Mt K "Writer" "__init__" "Writer.__init__" s_Writer_init ["self"]
  f_Writer_plain : Mt K "Writer" "plain" "Writer.plain" s_Writer_plain ["self", "values"]
  f_Writer_field : Mt K "Writer" "field" "Writer.field" s_Writer_field ["self", "values", "is_wrong"]
  f_track_cells : FnK K mg "track_cells" s_track_cells ["sectors", "length"] 1 "length" (.int 0)
  f_mark_places : Fn K mg "mark_places" s_mark_places ["cells"]
  f_bytes_at : Fn K mg "bytes_at" s_bytes_at ["cells", "place", "count"]
  f_is_checked : Fn K mg "is_checked" s_is_checked ["values"]
  f_data_behind : Fn K mg "data_behind" s_data_behind ["cells", "place", "size"]
  f_Finder_init : Mt K "Finder" "__init__" "Finder.__init__" s_Finder_init ["self", "cells"]
  f_Finder_first_byte : Mt K "Finder" "first_byte" "Finder.first_byte" s_Finder_first_byte ["self", "place"]
  f_Finder_look : Mt K "Finder" "look" "Finder.look" s_Finder_look ["self", "place"]
  f_Finder_take_address : Mt K "Finder" "take_address" "Finder.take_address" s_Finder_take_address ["self", "place"]
  f_Finder_take_data : Mt K "Finder" "take_data" "Finder.take_data" s_Finder_take_data ["self", "place"]
  f_found_sectors : Fn K mg "found_sectors" s_found_sectors ["cells"]
  f_found_in : Fn K mg "found_in" s_found_in ["reads", "cell"]
  f_weak_runs : Fn K mg "weak_runs" s_weak_runs ["lists"]
  f_good_sectors : Fn K mg "good_sectors" s_good_sectors ["rows"]
  f_all_addresses : Fn K mg "all_addresses" s_all_addresses ["rows"]
  f_doubled : Fn K mg "doubled" s_doubled ["rows", "address"]
  f_views_with : Fn K mg "views_with" s_views_with ["rows", "address"]
  f_is_wrong : Fn K mg "is_wrong" s_is_wrong ["rows", "address"]
  f_is_empty : Fn K mg "is_empty" s_is_empty ["rows", "address"]
  f_features : Fn K mg "features" s_features ["place", "reads", "cell", "wanted"]
  f_is_weak_bit : Fn K mg "is_weak_bit" s_is_weak_bit ["number", "index"]
  f_weakened : Fn K mg "weakened" s_weakened ["cells", "place", "count", "number"]
  f_protected_cells : FnK K mg "protected_cells" s_protected_cells ["sectors", "runs", "number", "length"] 3 "length" (.int 0)
  f_write_number : Fn K mg "write_number" s_write_number ["number"]
  f_read_number : Fn K mg "read_number" s_read_number ["values", "at"]
  f_is_note : Fn K mg "is_note" s_is_note ["note"]
  f_is_place : Fn K mg "is_place" s_is_place ["place"]
  f_Image_init : Mt K "Image" "__init__" "Image.__init__" s_Image_init ["self", "cell", "note", "tracks"]
  f_Image_eq : Mt K "Image" "__eq__" "Image.__eq__" s_Image_eq ["self", "other"]
  f_Image_places : Mt K "Image" "places" "Image.places" s_Image_places ["self"]
  f_Image_reads : Mt K "Image" "reads" "Image.reads" s_Image_reads ["self", "place"]
  f_back_count : Fn K mg "back_count" s_back_count ["intervals", "at"]
  f_read_bytes : Fn K mg "read_bytes" s_read_bytes ["read"]
  f_track_part : Fn K mg "track_part" s_track_part ["place", "reads"]
  f_first_bytes_of : Fn K mg "first_bytes_of" s_first_bytes_of ["cell", "note", "count"]
  f_sealed : Fn K mg "sealed" s_sealed ["values"]
  f_image_bytes : Fn K mg "image_bytes" s_image_bytes ["image"]
  f_ImageReader_init : Mt K "ImageReader" "__init__" "ImageReader.__init__" s_ImageReader_init ["self", "values"]
  f_ImageReader_number : Mt K "ImageReader" "number" "ImageReader.number" s_ImageReader_number ["self"]
  f_ImageReader_take : Mt K "ImageReader" "take" "ImageReader.take" s_ImageReader_take ["self", "count"]
  f_ImageReader_read_intervals : Mt K "ImageReader" "read_intervals" "ImageReader.read_intervals" s_ImageReader_read_intervals ["self", "count"]
  f_ImageReader_read_read : Mt K "ImageReader" "read_read" "ImageReader.read_read" s_ImageReader_read_read ["self"]
  f_ImageReader_read_track : Mt K "ImageReader" "read_track" "ImageReader.read_track" s_ImageReader_read_track ["self"]
  f_ImageReader_read_count : Mt K "ImageReader" "read_count" "ImageReader.read_count" s_ImageReader_read_count ["self"]
  f_ImageReader_skip_track : Mt K "ImageReader" "skip_track" "ImageReader.skip_track" s_ImageReader_skip_track ["self"]
  f_codes_text : Fn K mg "codes_text" s_codes_text ["values"]
  f_read_first : Fn K mg "read_first" s_read_first ["reader"]
  f_right_track : Fn K mg "right_track" s_right_track ["part"]
  f_read_tracks : Fn K mg "read_tracks" s_read_tracks ["reader", "count"]
  f_read_image : Fn K mg "read_image" s_read_image ["values"]
  f_law_made : Fn K mg "_law_made" s_law_made ["_law_sectors"]
  f_law_pool : Fn K mg "_law_pool" s_law_pool ["_law_script"]
  f_law_spread : Fn K mg "_law_spread" s_law_spread ["_law_cell"]
  f_law_draw : Fn K mg "_law_draw" s_law_draw ["_law_pool_here", "_law_many"]
  f_law_same : Fn K mg "_law_same" s_law_same ["_law_actual", "_law_due"]
  f_law_weak_of : Fn K mg "_law_weak_of" s_law_weak_of ["_law_lists"]
  f_law_plan : Fn K mg "_law_plan" s_law_plan ["_law_pool_here"]
  f_law : Fn K mg "law" s_law ["_law_script"]
  i_MOST_INTERVALS : ∃ t, mg "MOST_INTERVALS" = some (.int 60000 t)
  i_LONGEST : ∃ t, mg "LONGEST" = some (.int 1000000 t)
  i_SHORTEST_CELL : ∃ t, mg "SHORTEST_CELL" = some (.int 10 t)
  i_LONGEST_CELL : ∃ t, mg "LONGEST_CELL" = some (.int 1000 t)
  T_BIT_WEIGHTS : mg "BIT_WEIGHTS" = some (.ref (He.ga K "BIT_WEIGHTS")) ∧ KTup K (He.ga K "BIT_WEIGHTS") (vals_BIT_WEIGHTS.map V.int)
  i_CRC_START : ∃ t, mg "CRC_START" = some (.int 65535 t)
  i_CRC_MASK : ∃ t, mg "CRC_MASK" = some (.int 4129 t)
  i_WORD : ∃ t, mg "WORD" = some (.int 65536 t)
  i_TOP : ∃ t, mg "TOP" = some (.int 32768 t)
  i_GAP : ∃ t, mg "GAP" = some (.int 78 t)
  i_MARK_BYTE : ∃ t, mg "MARK_BYTE" = some (.int 161 t)
  T_MARK_CELLS : mg "MARK_CELLS" = some (.ref (He.ga K "MARK_CELLS")) ∧ KTup K (He.ga K "MARK_CELLS") (vals_MARK_CELLS.map V.int)
  T_THREE_MARKS : mg "THREE_MARKS" = some (.ref (He.ga K "THREE_MARKS")) ∧ KTup K (He.ga K "THREE_MARKS") (vals_THREE_MARKS.map V.int)
  i_ADDRESS_BYTE : ∃ t, mg "ADDRESS_BYTE" = some (.int 254 t)
  i_DATA_BYTE : ∃ t, mg "DATA_BYTE" = some (.int 251 t)
  i_FIRST_GAP : ∃ t, mg "FIRST_GAP" = some (.int 10 t)
  i_GAP_COUNT : ∃ t, mg "GAP_COUNT" = some (.int 8 t)
  i_SYNC_COUNT : ∃ t, mg "SYNC_COUNT" = some (.int 6 t)
  i_GREATEST_SIZE : ∃ t, mg "GREATEST_SIZE" = some (.int 5 t)
  i_SMALLEST : ∃ t, mg "SMALLEST" = some (.int 16 t)
  i_FARTHEST : ∃ t, mg "FARTHEST" = some (.int 960 t)
  T_POWERS_tracks : mg "POWERS_tracks" = some (.ref (He.ga K "POWERS_tracks")) ∧ KTup K (He.ga K "POWERS_tracks") (vals_POWERS_tracks.map V.int)
  T_POWERS_protection : mg "POWERS_protection" = some (.ref (He.ga K "POWERS_protection")) ∧ KTup K (He.ga K "POWERS_protection") (vals_POWERS_protection.map V.int)
  i_BASE : ∃ t, mg "BASE" = some (.int 128 t)
  i_LONGEST_NOTE : ∃ t, mg "LONGEST_NOTE" = some (.int 200 t)
  s_SIGNS : ∃ t, mg "SIGNS" = some (.str val_SIGNS t)
  i_GREATEST_CYLINDER : ∃ t, mg "GREATEST_CYLINDER" = some (.int 99 t)
  i_MOST_READS : ∃ t, mg "MOST_READS" = some (.int 20 t)
  T_FIRST_BYTES : mg "FIRST_BYTES" = some (.ref (He.ga K "FIRST_BYTES")) ∧ KTup K (He.ga K "FIRST_BYTES") (vals_FIRST_BYTES.map V.int)
  i_FARTHEST_BACK : ∃ t, mg "FARTHEST_BACK" = some (.int 60 t)
  c_Read : KW.Cl K mg "Read"
  a_Read_intervals : NoAttr K (He.ga K "Read") "intervals"
  a_Read_rest : NoAttr K (He.ga K "Read") "rest"
  c_Sector : KW.Cl K mg "Sector"
  a_Sector_address : NoAttr K (He.ga K "Sector") "address"
  a_Sector_data : NoAttr K (He.ga K "Sector") "data"
  a_Sector_address_wrong : NoAttr K (He.ga K "Sector") "address_wrong"
  a_Sector_data_wrong : NoAttr K (He.ga K "Sector") "data_wrong"
  c_Writer : KW.Cl K mg "Writer"
  a_Writer_cells : NoAttr K (He.ga K "Writer") "cells"
  c_Finder : KW.Cl K mg "Finder"
  a_Finder_cells : NoAttr K (He.ga K "Finder") "cells"
  a_Finder_found : NoAttr K (He.ga K "Finder") "found"
  a_Finder_is_open : NoAttr K (He.ga K "Finder") "is_open"
  a_Finder_end : NoAttr K (He.ga K "Finder") "end"
  c_Image : KW.Cl K mg "Image"
  a_Image_cell : NoAttr K (He.ga K "Image") "cell"
  a_Image_note : NoAttr K (He.ga K "Image") "note"
  a_Image_tracks : NoAttr K (He.ga K "Image") "tracks"
  c_ImageReader : KW.Cl K mg "ImageReader"
  a_ImageReader_row : NoAttr K (He.ga K "ImageReader") "row"
  a_ImageReader_at : NoAttr K (He.ga K "ImageReader") "at"
  is_Read : C8.InsC K (He.ga K "Read")
  is_Image : C8.InsC K (He.ga K "Image")
  ne_Image : PySem.W.findIn K (.ref (He.ga K "Image")) "__ne__" = some (some (.builtin "object.__ne__"))
  ob_Image : PySem.W.subIn K (.ref (He.ga K "Image")) (.type "object") = some true
  n_range : mg "range" = none
  n_len : mg "len" = none
  n_max : mg "max" = none
  n_min : mg "min" = none
  n_sum : mg "sum" = none
  n_any : mg "any" = none
  n_all : mg "all" = none
  n_int : mg "int" = none
  n_str : mg "str" = none
  n_ord : mg "ord" = none
  n_list : mg "list" = none
  n_tuple : mg "tuple" = none
  n_set : mg "set" = none
  n_sorted : mg "sorted" = none
  n_isinstance : mg "isinstance" = none
  n_bool : mg "bool" = none
end KW
end

section
set_option Elab.async false
set_option linter.all false
set_option maxRecDepth 100000
set_option maxHeartbeats 0
/-! The head: the facts of the written part, by names; the row. -/
namespace KW
open PySem PySem.Spec PyProof.Rows L2 KR
/-- the module's name x is an exact tuple of these ints -/
def ktupB (K : PySem.W.Frag) (x : Str) (ns : List Int) : Bool := match K.lookup (He.ga K x) with
  | some ⟨.type c, none, .seq its _, sl⟩ => decide (c = "tuple") && (sl.isEmpty && (decide (its.size ≤ sizeLine) && He.relAll (ns.map V.int) its.toList))
  | _ => false
theorem ktupB_ok {K : PySem.W.Frag} {x : Str} {ns : List Int} (h : ktupB K x ns = true) : KTup K (He.ga K x) (ns.map V.int) := by
  unfold ktupB at h
  cases q : K.lookup (He.ga K x) with
  | none =>
    rw [q] at h
    cases h
  | some o =>
    obtain ⟨oc, od, dt, osl⟩ := o
    rw [q] at h
    cases oc with
    | type c =>
      cases od with
      | none =>
        cases dt with
        | seq its n =>
          obtain ⟨h1, h2⟩ := He.ba (show (decide (c = "tuple") && (osl.isEmpty && (decide (its.size ≤ sizeLine) && He.relAll (ns.map V.int) its.toList))) = true from h)
          obtain ⟨h3, h4⟩ := He.ba h2
          obtain ⟨h5, h6⟩ := He.ba h4
          refine ⟨its, n, ?_, of_decide_eq_true h5, He.relAll_ok h6⟩
          rw [q, of_decide_eq_true h1, Array.isEmpty_iff.mp h3]
        | _ => cases h
      | some d => cases dt <;> cases h
    | _ => cases od <;> cases dt <;> cases h
/-- what isinstance asks of an own class -/
def insB (K : PySem.W.Frag) (x : Str) : Bool := He.eqO (PySem.W.findIn K (.ref (He.ga K x)) "__class__") (some (some (.builtin "object.__class__"))) &&
  (He.eqO (PySem.W.specialIn K (.builtin "object.__class__") "__get__") (some (some (.builtin "getset_descriptor.__get__"))) &&
  (decide (PySem.W.takesIn K (.builtin "object.__class__") = some true) && (decide (PySem.W.mroIn K (He.ga K x) (.type "object") = some true) && decide (PySem.W.kitOne K (.ref (He.ga K x)) (.ref (He.ga K x)) = some true))))
theorem insB_ok {K : PySem.W.Frag} {x : Str} (cl : Cls K (He.ga K x)) (h : insB K x = true) : C8.InsC K (He.ga K x) := by
  obtain ⟨h1, h⟩ := He.ba h
  obtain ⟨h2, h⟩ := He.ba h
  obtain ⟨h3, h⟩ := He.ba h
  obtain ⟨h4, h5⟩ := He.ba h
  exact ⟨cl, He.eqO_ok h1, He.eqO_ok h2, of_decide_eq_true h3, of_decide_eq_true h4, of_decide_eq_true h5⟩
theorem fd_eq {K : PySem.W.Frag} {n q : Str} {ar : Arguments} {b : List Stmt} {sc : Scope} {dvs : List V} {kws : List (Str × V)} {p : Str × Option Str} {fd : FuncData} (F : FunD K n q ar b sc dvs kws (He.fAd K p) fd) : fd = fdOf K p := by
  obtain ⟨oc, od, dV, kV, doc, pm, an, cdv, ct, osl, rfl, lk, _⟩ := F.ex
  unfold fdOf
  rw [lk]
def exH (K : PySem.W.Frag) : Bool := (ktupB K "BIT_WEIGHTS" vals_BIT_WEIGHTS && (ktupB K "MARK_CELLS" vals_MARK_CELLS && (ktupB K "THREE_MARKS" vals_THREE_MARKS && (ktupB K "POWERS_tracks" vals_POWERS_tracks && (ktupB K "POWERS_protection" vals_POWERS_protection && (ktupB K "FIRST_BYTES" vals_FIRST_BYTES && (insB K "Read" && (insB K "Image" && (He.eqO (PySem.W.findIn K (.ref (He.ga K "Image")) "__ne__") (some (some (.builtin "object.__ne__"))) && decide (PySem.W.subIn K (.ref (He.ga K "Image")) (.type "object") = some true))))))))))
def d_Read_init : He.DefD := ⟨("Read", some "__init__"), "__init__", "Read.__init__", defArgs s_Read_init, defBody s_Read_init, defScope s_Read_init, [], []⟩
def d_Read_eq : He.DefD := ⟨("Read", some "__eq__"), "__eq__", "Read.__eq__", defArgs s_Read_eq, defBody s_Read_eq, defScope s_Read_eq, [], []⟩
def d_demand_cell : He.DefD := ⟨("demand_cell", none), "demand_cell", "demand_cell", defArgs s_demand_cell, defBody s_demand_cell, defScope s_demand_cell, [], []⟩
def d_flux_of : He.DefD := ⟨("flux_of", none), "flux_of", "flux_of", defArgs s_flux_of, defBody s_flux_of, defScope s_flux_of, [], []⟩
def d_fixed_cells : He.DefD := ⟨("fixed_cells", none), "fixed_cells", "fixed_cells", defArgs s_fixed_cells, defBody s_fixed_cells, defScope s_fixed_cells, [], []⟩
def d_shortest : He.DefD := ⟨("shortest", none), "shortest", "shortest", defArgs s_shortest, defBody s_shortest, defScope s_shortest, [], []⟩
def d_weak_places : He.DefD := ⟨("weak_places", none), "weak_places", "weak_places", defArgs s_weak_places, defBody s_weak_places, defScope s_weak_places, [], []⟩
def d_byte_bits : He.DefD := ⟨("byte_bits", none), "byte_bits", "byte_bits", defArgs s_byte_bits, defBody s_byte_bits, defScope s_byte_bits, [], []⟩
def d_bits_byte : He.DefD := ⟨("bits_byte", none), "bits_byte", "bits_byte", defArgs s_bits_byte, defBody s_bits_byte, defScope s_bits_byte, [], []⟩
def d_exclusive : He.DefD := ⟨("exclusive", none), "exclusive", "exclusive", defArgs s_exclusive, defBody s_exclusive, defScope s_exclusive, [], []⟩
def d_step : He.DefD := ⟨("step", none), "step", "step", defArgs s_step, defBody s_step, defScope s_step, [], []⟩
def d_crc : He.DefD := ⟨("crc", none), "crc", "crc", defArgs s_crc, defBody s_crc, defScope s_crc, [], []⟩
def d_two_bytes : He.DefD := ⟨("two_bytes", none), "two_bytes", "two_bytes", defArgs s_two_bytes, defBody s_two_bytes, defScope s_two_bytes, [], []⟩
def d_all_bits : He.DefD := ⟨("all_bits", none), "all_bits", "all_bits", defArgs s_all_bits, defBody s_all_bits, defScope s_all_bits, [], []⟩
def d_whole_bytes : He.DefD := ⟨("whole_bytes", none), "whole_bytes", "whole_bytes", defArgs s_whole_bytes, defBody s_whole_bytes, defScope s_whole_bytes, [], []⟩
def d_clock_for : He.DefD := ⟨("clock_for", none), "clock_for", "clock_for", defArgs s_clock_for, defBody s_clock_for, defScope s_clock_for, [], []⟩
def d_mfm_cells : He.DefD := ⟨("mfm_cells", none), "mfm_cells", "mfm_cells", defArgs s_mfm_cells, defBody s_mfm_cells, defScope s_mfm_cells, [], [("before", .int 0)]⟩
def d_read_mfm : He.DefD := ⟨("read_mfm", none), "read_mfm", "read_mfm", defArgs s_read_mfm, defBody s_read_mfm, defScope s_read_mfm, [], [("before", .int 0)]⟩
def d_Sector_init : He.DefD := ⟨("Sector", some "__init__"), "__init__", "Sector.__init__", defArgs s_Sector_init, defBody s_Sector_init, defScope s_Sector_init, [], [("address_wrong", .bl false), ("data_wrong", .bl false)]⟩
def d_data_length : He.DefD := ⟨("data_length", none), "data_length", "data_length", defArgs s_data_length, defBody s_data_length, defScope s_data_length, [], []⟩
def d_is_sector : He.DefD := ⟨("is_sector", none), "is_sector", "is_sector", defArgs s_is_sector, defBody s_is_sector, defScope s_is_sector, [], []⟩
def d_demand_sectors : He.DefD := ⟨("demand_sectors", none), "demand_sectors", "demand_sectors", defArgs s_demand_sectors, defBody s_demand_sectors, defScope s_demand_sectors, [], []⟩
def d_sector_length : He.DefD := ⟨("sector_length", none), "sector_length", "sector_length", defArgs s_sector_length, defBody s_sector_length, defScope s_sector_length, [], []⟩
def d_track_bytes : He.DefD := ⟨("track_bytes", none), "track_bytes", "track_bytes", defArgs s_track_bytes, defBody s_track_bytes, defScope s_track_bytes, [], []⟩
def d_Writer_init : He.DefD := ⟨("Writer", some "__init__"), "__init__", "Writer.__init__", defArgs s_Writer_init, defBody s_Writer_init, defScope s_Writer_init, [], []⟩
def d_Writer_plain : He.DefD := ⟨("Writer", some "plain"), "plain", "Writer.plain", defArgs s_Writer_plain, defBody s_Writer_plain, defScope s_Writer_plain, [], []⟩
def d_Writer_field : He.DefD := ⟨("Writer", some "field"), "field", "Writer.field", defArgs s_Writer_field, defBody s_Writer_field, defScope s_Writer_field, [], []⟩
def d_track_cells : He.DefD := ⟨("track_cells", none), "track_cells", "track_cells", defArgs s_track_cells, defBody s_track_cells, defScope s_track_cells, [], [("length", .int 0)]⟩
def d_mark_places : He.DefD := ⟨("mark_places", none), "mark_places", "mark_places", defArgs s_mark_places, defBody s_mark_places, defScope s_mark_places, [], []⟩
def d_bytes_at : He.DefD := ⟨("bytes_at", none), "bytes_at", "bytes_at", defArgs s_bytes_at, defBody s_bytes_at, defScope s_bytes_at, [], []⟩
def d_is_checked : He.DefD := ⟨("is_checked", none), "is_checked", "is_checked", defArgs s_is_checked, defBody s_is_checked, defScope s_is_checked, [], []⟩
def d_data_behind : He.DefD := ⟨("data_behind", none), "data_behind", "data_behind", defArgs s_data_behind, defBody s_data_behind, defScope s_data_behind, [], []⟩
def d_Finder_init : He.DefD := ⟨("Finder", some "__init__"), "__init__", "Finder.__init__", defArgs s_Finder_init, defBody s_Finder_init, defScope s_Finder_init, [], []⟩
def d_Finder_first_byte : He.DefD := ⟨("Finder", some "first_byte"), "first_byte", "Finder.first_byte", defArgs s_Finder_first_byte, defBody s_Finder_first_byte, defScope s_Finder_first_byte, [], []⟩
def d_Finder_look : He.DefD := ⟨("Finder", some "look"), "look", "Finder.look", defArgs s_Finder_look, defBody s_Finder_look, defScope s_Finder_look, [], []⟩
def d_Finder_take_address : He.DefD := ⟨("Finder", some "take_address"), "take_address", "Finder.take_address", defArgs s_Finder_take_address, defBody s_Finder_take_address, defScope s_Finder_take_address, [], []⟩
def d_Finder_take_data : He.DefD := ⟨("Finder", some "take_data"), "take_data", "Finder.take_data", defArgs s_Finder_take_data, defBody s_Finder_take_data, defScope s_Finder_take_data, [], []⟩
def d_found_sectors : He.DefD := ⟨("found_sectors", none), "found_sectors", "found_sectors", defArgs s_found_sectors, defBody s_found_sectors, defScope s_found_sectors, [], []⟩
def d_found_in : He.DefD := ⟨("found_in", none), "found_in", "found_in", defArgs s_found_in, defBody s_found_in, defScope s_found_in, [], []⟩
def d_weak_runs : He.DefD := ⟨("weak_runs", none), "weak_runs", "weak_runs", defArgs s_weak_runs, defBody s_weak_runs, defScope s_weak_runs, [], []⟩
def d_good_sectors : He.DefD := ⟨("good_sectors", none), "good_sectors", "good_sectors", defArgs s_good_sectors, defBody s_good_sectors, defScope s_good_sectors, [], []⟩
def d_all_addresses : He.DefD := ⟨("all_addresses", none), "all_addresses", "all_addresses", defArgs s_all_addresses, defBody s_all_addresses, defScope s_all_addresses, [], []⟩
def d_doubled : He.DefD := ⟨("doubled", none), "doubled", "doubled", defArgs s_doubled, defBody s_doubled, defScope s_doubled, [], []⟩
def d_views_with : He.DefD := ⟨("views_with", none), "views_with", "views_with", defArgs s_views_with, defBody s_views_with, defScope s_views_with, [], []⟩
def d_is_wrong : He.DefD := ⟨("is_wrong", none), "is_wrong", "is_wrong", defArgs s_is_wrong, defBody s_is_wrong, defScope s_is_wrong, [], []⟩
def d_is_empty : He.DefD := ⟨("is_empty", none), "is_empty", "is_empty", defArgs s_is_empty, defBody s_is_empty, defScope s_is_empty, [], []⟩
def d_features : He.DefD := ⟨("features", none), "features", "features", defArgs s_features, defBody s_features, defScope s_features, [], []⟩
def d_is_weak_bit : He.DefD := ⟨("is_weak_bit", none), "is_weak_bit", "is_weak_bit", defArgs s_is_weak_bit, defBody s_is_weak_bit, defScope s_is_weak_bit, [], []⟩
def d_weakened : He.DefD := ⟨("weakened", none), "weakened", "weakened", defArgs s_weakened, defBody s_weakened, defScope s_weakened, [], []⟩
def d_protected_cells : He.DefD := ⟨("protected_cells", none), "protected_cells", "protected_cells", defArgs s_protected_cells, defBody s_protected_cells, defScope s_protected_cells, [], [("length", .int 0)]⟩
def d_write_number : He.DefD := ⟨("write_number", none), "write_number", "write_number", defArgs s_write_number, defBody s_write_number, defScope s_write_number, [], []⟩
def d_read_number : He.DefD := ⟨("read_number", none), "read_number", "read_number", defArgs s_read_number, defBody s_read_number, defScope s_read_number, [], []⟩
def d_is_note : He.DefD := ⟨("is_note", none), "is_note", "is_note", defArgs s_is_note, defBody s_is_note, defScope s_is_note, [], []⟩
def d_is_place : He.DefD := ⟨("is_place", none), "is_place", "is_place", defArgs s_is_place, defBody s_is_place, defScope s_is_place, [], []⟩
def d_Image_init : He.DefD := ⟨("Image", some "__init__"), "__init__", "Image.__init__", defArgs s_Image_init, defBody s_Image_init, defScope s_Image_init, [], []⟩
def d_Image_eq : He.DefD := ⟨("Image", some "__eq__"), "__eq__", "Image.__eq__", defArgs s_Image_eq, defBody s_Image_eq, defScope s_Image_eq, [], []⟩
def d_Image_places : He.DefD := ⟨("Image", some "places"), "places", "Image.places", defArgs s_Image_places, defBody s_Image_places, defScope s_Image_places, [], []⟩
def d_Image_reads : He.DefD := ⟨("Image", some "reads"), "reads", "Image.reads", defArgs s_Image_reads, defBody s_Image_reads, defScope s_Image_reads, [], []⟩
def d_back_count : He.DefD := ⟨("back_count", none), "back_count", "back_count", defArgs s_back_count, defBody s_back_count, defScope s_back_count, [], []⟩
def d_read_bytes : He.DefD := ⟨("read_bytes", none), "read_bytes", "read_bytes", defArgs s_read_bytes, defBody s_read_bytes, defScope s_read_bytes, [], []⟩
def d_track_part : He.DefD := ⟨("track_part", none), "track_part", "track_part", defArgs s_track_part, defBody s_track_part, defScope s_track_part, [], []⟩
def d_first_bytes_of : He.DefD := ⟨("first_bytes_of", none), "first_bytes_of", "first_bytes_of", defArgs s_first_bytes_of, defBody s_first_bytes_of, defScope s_first_bytes_of, [], []⟩
def d_sealed : He.DefD := ⟨("sealed", none), "sealed", "sealed", defArgs s_sealed, defBody s_sealed, defScope s_sealed, [], []⟩
def d_image_bytes : He.DefD := ⟨("image_bytes", none), "image_bytes", "image_bytes", defArgs s_image_bytes, defBody s_image_bytes, defScope s_image_bytes, [], []⟩
def d_ImageReader_init : He.DefD := ⟨("ImageReader", some "__init__"), "__init__", "ImageReader.__init__", defArgs s_ImageReader_init, defBody s_ImageReader_init, defScope s_ImageReader_init, [], []⟩
def d_ImageReader_number : He.DefD := ⟨("ImageReader", some "number"), "number", "ImageReader.number", defArgs s_ImageReader_number, defBody s_ImageReader_number, defScope s_ImageReader_number, [], []⟩
def d_ImageReader_take : He.DefD := ⟨("ImageReader", some "take"), "take", "ImageReader.take", defArgs s_ImageReader_take, defBody s_ImageReader_take, defScope s_ImageReader_take, [], []⟩
def d_ImageReader_read_intervals : He.DefD := ⟨("ImageReader", some "read_intervals"), "read_intervals", "ImageReader.read_intervals", defArgs s_ImageReader_read_intervals, defBody s_ImageReader_read_intervals, defScope s_ImageReader_read_intervals, [], []⟩
def d_ImageReader_read_read : He.DefD := ⟨("ImageReader", some "read_read"), "read_read", "ImageReader.read_read", defArgs s_ImageReader_read_read, defBody s_ImageReader_read_read, defScope s_ImageReader_read_read, [], []⟩
def d_ImageReader_read_track : He.DefD := ⟨("ImageReader", some "read_track"), "read_track", "ImageReader.read_track", defArgs s_ImageReader_read_track, defBody s_ImageReader_read_track, defScope s_ImageReader_read_track, [], []⟩
def d_ImageReader_read_count : He.DefD := ⟨("ImageReader", some "read_count"), "read_count", "ImageReader.read_count", defArgs s_ImageReader_read_count, defBody s_ImageReader_read_count, defScope s_ImageReader_read_count, [], []⟩
def d_ImageReader_skip_track : He.DefD := ⟨("ImageReader", some "skip_track"), "skip_track", "ImageReader.skip_track", defArgs s_ImageReader_skip_track, defBody s_ImageReader_skip_track, defScope s_ImageReader_skip_track, [], []⟩
def d_codes_text : He.DefD := ⟨("codes_text", none), "codes_text", "codes_text", defArgs s_codes_text, defBody s_codes_text, defScope s_codes_text, [], []⟩
def d_read_first : He.DefD := ⟨("read_first", none), "read_first", "read_first", defArgs s_read_first, defBody s_read_first, defScope s_read_first, [], []⟩
def d_right_track : He.DefD := ⟨("right_track", none), "right_track", "right_track", defArgs s_right_track, defBody s_right_track, defScope s_right_track, [], []⟩
def d_read_tracks : He.DefD := ⟨("read_tracks", none), "read_tracks", "read_tracks", defArgs s_read_tracks, defBody s_read_tracks, defScope s_read_tracks, [], []⟩
def d_read_image : He.DefD := ⟨("read_image", none), "read_image", "read_image", defArgs s_read_image, defBody s_read_image, defScope s_read_image, [], []⟩
def d_law_made : He.DefD := ⟨("_law_made", none), "_law_made", "_law_made", defArgs s_law_made, defBody s_law_made, defScope s_law_made, [], []⟩
def d_law_pool : He.DefD := ⟨("_law_pool", none), "_law_pool", "_law_pool", defArgs s_law_pool, defBody s_law_pool, defScope s_law_pool, [], []⟩
def d_law_spread : He.DefD := ⟨("_law_spread", none), "_law_spread", "_law_spread", defArgs s_law_spread, defBody s_law_spread, defScope s_law_spread, [], []⟩
def d_law_draw : He.DefD := ⟨("_law_draw", none), "_law_draw", "_law_draw", defArgs s_law_draw, defBody s_law_draw, defScope s_law_draw, [], []⟩
def d_law_same : He.DefD := ⟨("_law_same", none), "_law_same", "_law_same", defArgs s_law_same, defBody s_law_same, defScope s_law_same, [], []⟩
def d_law_weak_of : He.DefD := ⟨("_law_weak_of", none), "_law_weak_of", "_law_weak_of", defArgs s_law_weak_of, defBody s_law_weak_of, defScope s_law_weak_of, [], []⟩
def d_law_plan : He.DefD := ⟨("_law_plan", none), "_law_plan", "_law_plan", defArgs s_law_plan, defBody s_law_plan, defScope s_law_plan, [], []⟩
def d_law : He.DefD := ⟨("law", none), "law", "law", defArgs s_law, defBody s_law, defScope s_law, [], []⟩
def fa0 : List He.Fa := [.glo "demand_cell", .glo "flux_of", .glo "fixed_cells", .glo "shortest", .glo "weak_places", .glo "byte_bits", .glo "bits_byte", .glo "exclusive", .glo "step", .glo "crc", .glo "two_bytes", .glo "all_bits", .glo "whole_bytes", .glo "clock_for", .glo "mfm_cells", .glo "read_mfm", .glo "data_length", .glo "is_sector", .glo "demand_sectors", .glo "sector_length", .glo "track_bytes", .glo "track_cells", .glo "mark_places", .glo "bytes_at", .glo "is_checked", .glo "data_behind", .glo "found_sectors", .glo "found_in", .glo "weak_runs", .glo "good_sectors"]
def fa1 : List He.Fa := [.glo "all_addresses", .glo "doubled", .glo "views_with", .glo "is_wrong", .glo "is_empty", .glo "features", .glo "is_weak_bit", .glo "weakened", .glo "protected_cells", .glo "write_number", .glo "read_number", .glo "is_note", .glo "is_place", .glo "back_count", .glo "read_bytes", .glo "track_part", .glo "first_bytes_of", .glo "sealed", .glo "image_bytes", .glo "codes_text", .glo "read_first", .glo "right_track", .glo "read_tracks", .glo "read_image", .glo "_law_made", .glo "_law_pool", .glo "_law_spread", .glo "_law_draw", .glo "_law_same", .glo "_law_weak_of"]
def fa2 : List He.Fa := [.glo "_law_plan", .glo "law", .glo "Read", .cls "Read", .mkr "Read", .glo "Sector", .cls "Sector", .mkr "Sector", .glo "Writer", .cls "Writer", .mkr "Writer", .glo "Finder", .cls "Finder", .mkr "Finder", .glo "Image", .cls "Image", .mkr "Image", .glo "ImageReader", .cls "ImageReader", .mkr "ImageReader", .meth "Read" "__init__", .meth "Read" "__eq__", .meth "Sector" "__init__", .meth "Writer" "__init__", .meth "Writer" "plain", .meth "Writer" "field", .meth "Finder" "__init__", .meth "Finder" "first_byte", .meth "Finder" "look", .meth "Finder" "take_address"]
def fa3 : List He.Fa := [.meth "Finder" "take_data", .meth "Image" "__init__", .meth "Image" "__eq__", .meth "Image" "places", .meth "Image" "reads", .meth "ImageReader" "__init__", .meth "ImageReader" "number", .meth "ImageReader" "take", .meth "ImageReader" "read_intervals", .meth "ImageReader" "read_read", .meth "ImageReader" "read_track", .meth "ImageReader" "read_count", .meth "ImageReader" "skip_track", .noat "Read" "intervals", .noat "Read" "rest", .noat "Sector" "address", .noat "Sector" "data", .noat "Sector" "address_wrong", .noat "Sector" "data_wrong", .noat "Writer" "cells", .noat "Finder" "cells", .noat "Finder" "found", .noat "Finder" "is_open", .noat "Finder" "end", .noat "Image" "cell", .noat "Image" "note", .noat "Image" "tracks", .noat "ImageReader" "row", .noat "ImageReader" "at", .int "MOST_INTERVALS" (60000)]
def fa4 : List He.Fa := [.int "LONGEST" (1000000), .int "SHORTEST_CELL" (10), .int "LONGEST_CELL" (1000), .glo "BIT_WEIGHTS", .int "CRC_START" (65535), .int "CRC_MASK" (4129), .int "WORD" (65536), .int "TOP" (32768), .int "GAP" (78), .int "MARK_BYTE" (161), .glo "MARK_CELLS", .glo "THREE_MARKS", .int "ADDRESS_BYTE" (254), .int "DATA_BYTE" (251), .int "FIRST_GAP" (10), .int "GAP_COUNT" (8), .int "SYNC_COUNT" (6), .int "GREATEST_SIZE" (5), .int "SMALLEST" (16), .int "FARTHEST" (960), .glo "POWERS_tracks", .glo "POWERS_protection", .int "BASE" (128), .int "LONGEST_NOTE" (200), .str "SIGNS" val_SIGNS, .int "GREATEST_CYLINDER" (99), .int "MOST_READS" (20), .glo "FIRST_BYTES", .int "FARTHEST_BACK" (60), .free "range"]
def fa5 : List He.Fa := [.free "len", .free "max", .free "min", .free "sum", .free "any", .free "all", .free "int", .free "str", .free "ord", .free "list", .free "tuple", .free "set", .free "sorted", .free "isinstance", .free "bool"]
def fa : List He.Fa := fa0 ++ (fa1 ++ (fa2 ++ (fa3 ++ (fa4 ++ (fa5)))))
def fn0 : List He.DefD := [d_Read_init, d_Read_eq, d_demand_cell, d_flux_of, d_fixed_cells, d_shortest, d_weak_places, d_byte_bits, d_bits_byte, d_exclusive, d_step, d_crc, d_two_bytes, d_all_bits, d_whole_bytes, d_clock_for, d_mfm_cells, d_read_mfm, d_Sector_init, d_data_length, d_is_sector, d_demand_sectors, d_sector_length, d_track_bytes, d_Writer_init, d_Writer_plain, d_Writer_field, d_track_cells, d_mark_places, d_bytes_at]
def fn1 : List He.DefD := [d_is_checked, d_data_behind, d_Finder_init, d_Finder_first_byte, d_Finder_look, d_Finder_take_address, d_Finder_take_data, d_found_sectors, d_found_in, d_weak_runs, d_good_sectors, d_all_addresses, d_doubled, d_views_with, d_is_wrong, d_is_empty, d_features, d_is_weak_bit, d_weakened, d_protected_cells, d_write_number, d_read_number, d_is_note, d_is_place, d_Image_init, d_Image_eq, d_Image_places, d_Image_reads, d_back_count, d_read_bytes]
def fn2 : List He.DefD := [d_track_part, d_first_bytes_of, d_sealed, d_image_bytes, d_ImageReader_init, d_ImageReader_number, d_ImageReader_take, d_ImageReader_read_intervals, d_ImageReader_read_read, d_ImageReader_read_track, d_ImageReader_read_count, d_ImageReader_skip_track, d_codes_text, d_read_first, d_right_track, d_read_tracks, d_read_image, d_law_made, d_law_pool, d_law_spread, d_law_draw, d_law_same, d_law_weak_of, d_law_plan, d_law]
def fn : List He.DefD := fn0 ++ (fn1 ++ (fn2))
/-- what an object names, as far as the facts need it -/
def refsF (o : Obj) : List Addr := match o.data with
  | .dict es _ => es.toList.flatMap fun e => He.refV e.val
  | .func fd => He.refV fd.code ++ He.refV fd.kwdefaults
  | .cls cd => [cd.ns]
  | _ => []
def nextF (g : Addr → Option Obj) (f : List Addr) : List Addr := f.flatMap fun a => match g a with
  | some o => refsF o
  | none => []
def asF (g : Addr → Option Obj) : Nat → List Addr → List Addr
  | 0, f => f
  | n + 1, f => f ++ asF g n (nextF g f)
/-! ### the Hook: the facts and one Bool more -/
abbrev AlZ : Type := He.AlD × Bool
def obsZ (K : PySem.W.Frag) : AlZ := (He.obsD fa fn K, exH K)
def SaysZ (K : PySem.W.Frag) : Prop := obsZ K = (He.valD fn, true)
def obsZG (n : Nat) (g : Addr → Option Obj) : AlZ := obsZ (He.frG g (asF g n [mainGlobals]))
def hookZ (n : Nat) : PySem.W.Hook where
  α := AlZ
  obs := fun s => obsZG n s.heap.get?
  val := fun _ => (He.valD fn, true)
  says := fun _ h => ∃ K : PySem.W.Frag, K.In h ∧ SaysZ K
  of := fun _ _ e => ⟨_, He.frG_in, e⟩
  keeps := fun _ _ _ ⟨K, hK, c⟩ k => ⟨K, PySem.W.Frag.In.keeps hK k, c⟩
theorem obsZG_eq {n : Nat} {g : Addr → Option Obj} {s : Shared} (h : ∀ a, g a = s.heap.get? a) : obsZG n g = (hookZ n).obs s := by
  have e : g = s.heap.get? := funext h
  rw [e] <;> rfl
theorem SaysZ.d {K : PySem.W.Frag} (c : SaysZ K) : He.SaysD fa fn K := congrArg (fun z : AlZ => z.1) c
theorem SaysZ.ex {K : PySem.W.Frag} (c : SaysZ K) : exH K = true := congrArg (fun z : AlZ => z.2) c
abbrev R : PySem.W.OpenRow := PySem.W.OpenLaw.row PySem.Challenge.rw_discwright_k35_whole_features_are_kept_b
abbrev qv := PySem.W.view R.prog [115]
def names0 : List PySem.Str := ["_wall", "DiscError", "DifferentLengths", "InvalidRead", "InvalidCell", "InvalidImage", "BadBytes", "InvalidSector", "MOST_INTERVALS", "LONGEST", "SHORTEST_CELL", "LONGEST_CELL", "Read", "demand_cell", "flux_of", "fixed_cells", "shortest", "weak_places", "BIT_WEIGHTS", "CRC_START", "CRC_MASK", "WORD", "TOP", "byte_bits", "bits_byte", "exclusive", "step", "crc", "two_bytes", "all_bits"]
def names1 : List PySem.Str := ["whole_bytes", "clock_for", "mfm_cells", "read_mfm", "GAP", "MARK_BYTE", "MARK_CELLS", "THREE_MARKS", "ADDRESS_BYTE", "DATA_BYTE", "FIRST_GAP", "GAP_COUNT", "SYNC_COUNT", "GREATEST_SIZE", "SMALLEST", "FARTHEST", "POWERS_tracks", "Sector", "data_length", "is_sector", "demand_sectors", "sector_length", "track_bytes", "Writer", "track_cells", "mark_places", "bytes_at", "is_checked", "data_behind", "Finder"]
def names2 : List PySem.Str := ["found_sectors", "found_in", "POWERS_protection", "weak_runs", "good_sectors", "all_addresses", "doubled", "views_with", "is_wrong", "is_empty", "features", "is_weak_bit", "weakened", "protected_cells", "BASE", "write_number", "read_number", "LONGEST_NOTE", "SIGNS", "GREATEST_CYLINDER", "MOST_READS", "FIRST_BYTES", "FARTHEST_BACK", "is_note", "is_place", "Image", "back_count", "read_bytes", "track_part", "first_bytes_of"]
def names3 : List PySem.Str := ["sealed", "image_bytes", "ImageReader", "codes_text", "read_first", "right_track", "read_tracks", "read_image", "_law_made", "_law_pool", "_law_spread", "_law_draw", "_law_same", "_law_weak_of", "_law_plan"]
def names : List PySem.Str := names0 ++ names1 ++ names2 ++ names3
abbrev hk : PySem.W.Hook := hookZ 4
def ob (s : PySem.W.SharedT) : AlZ := obsZG 4 (HandSHeadRun.getT s)
theorem ob_eq (s : PySem.W.SharedT) : ob s = hk.obs s.abs := obsZG_eq (HandSHeadRun.getT_eq s)
/-! ### the run, four looks at its end, each apart -/
def KK (s : PySem.W.SharedT) : PySem.W.Frag := He.frG (HandSHeadRun.getT s) (asF (HandSHeadRun.getT s) 4 [mainGlobals])
theorem ob_is : ob = fun s => (((fa.all (fun f => f.ok (KK s)) && fn.all (fun d => d.ok (KK s))), fn.map (fun d => He.fnW (KK s) d.at_)), exH (KK s)) := rfl
theorem jb {S γ : Type} {z : Option S} {p1 p2 p4 : S → Bool} {p3 : S → γ} {c : γ} (h1 : z.map (fun s => (p1 s, p4 s)) = some (true, true)) (h2 : z.map p2 = some true) (h3 : z.map p3 = some c) :
    z.map (fun s => (((p1 s && p2 s), p3 s), p4 s)) = some ((true, c), true) := by
  cases z with
  | none => cases h1
  | some s =>
    have e1 : (p1 s, p4 s) = (true, true) := Option.some.inj h1
    have e2 : p2 s = true := Option.some.inj h2
    have e3 : p3 s = c := Option.some.inj h3
    have e4 : p1 s = true := congrArg Prod.fst e1
    have e5 : p4 s = true := congrArg Prod.snd e1
    show some (((p1 s && p2 s), p3 s), p4 s) = some ((true, c), true)
    rw [e2, e3, e4, e5] <;> rfl
theorem jn {S α β γ : Type} {z : Option S} {l : S → α} {q : S → β} {o : S → γ} {a : α} {b : β} {c : γ} (h1 : z.map (fun s => (l s, q s, ())) = some (a, b, ())) (h2 : z.map o = some c) : z.map (fun s => (l s, q s, o s)) = some (a, b, c) := by
  cases z with
  | none => cases h2
  | some s =>
    have e1 : (l s, q s, ()) = (a, b, ()) := Option.some.inj h1
    have e2 : o s = c := Option.some.inj h2
    have e3 : l s = a := congrArg Prod.fst e1
    have e4 : q s = b := congrArg (fun t => t.2.1) e1
    show some (l s, q s, o s) = some (a, b, c)
    rw [e2, e3, e4]
section
open HandSHeadRun
theorem run1 (w : World) : RunEq R qv PySem.W.Hook.none (fun _ => ()) 20000 names w := by
  intro os
  kernel_rfl
theorem run2 (w : World) (os : OsState) : (endF (stepQ (denQ tabQ) R.prog w) 20000 R.prog w os).map (fun s => (fa.all (fun f => f.ok (KK s)), exH (KK s))) = some (true, true) := by
  kernel_rfl
theorem run3 (w : World) (os : OsState) : (endF (stepQ (denQ tabQ) R.prog w) 20000 R.prog w os).map (fun s => fn.all (fun d => d.ok (KK s))) = some true := by
  kernel_rfl
theorem run4 (w : World) (os : OsState) : (endF (stepQ (denQ tabQ) R.prog w) 20000 R.prog w os).map (fun s => fn.map (fun d => He.fnW (KK s) d.at_)) = some (fn.map He.DefD.val) := by
  kernel_rfl
theorem run5 (w : World) (os : OsState) : (endF (stepQ (denQ tabQ) R.prog w) 20000 R.prog w os).map ob = some (He.valD fn, true) := by
  rw [ob_is]
  exact jb (run2 w os) (run3 w os) (run4 w os)
theorem run (w : World) : RunEq R qv hk ob 20000 names w := fun os => jn (run1 w os) (run5 w os)
end
end KW
end

section
set_option Elab.async false
set_option linter.all false
set_option maxRecDepth 100000
set_option maxHeartbeats 4000000
/-! Tools: heaps that grow, new objects, comprehensions and loops that only make objects. -/
namespace KW
open PySem PySem.Spec PyProof.Rows L2 KR
section
variable {H H' H1 H2 : Hp} {p a b : Addr} {o u : HO}
theorem Same.new (h : H p = none) : Same H (upd H p o) := fun b u e => by rw [upd_ne (ne_of_none e h)]; exact e
theorem Same.mut (e : Same H H') (h : H p = none) : Same H (upd H' p o) := fun b u ha => by rw [upd_ne (ne_of_none ha h)]; exact e b u ha
theorem Same.tup {K : PySem.W.Frag} {xs : List V} (e : Same H H') (h : SqT K H a xs) : SqT K H' a xs := by
  rcases h with (h | ⟨o, h⟩) | h
  · exact .inl (.inl (e _ _ h))
  · exact .inl (.inr ⟨o, e _ _ h⟩)
  · exact .inr h
/-- the heap without p -/
def del (H : Hp) (p : Addr) : Hp := fun b => if b = p then none else H b
theorem del_same : del H p p = none := by unfold del; rw [if_pos rfl]
theorem del_ne (h : b ≠ p) : del H p b = H b := by unfold del; rw [if_neg h]
theorem del_sub : Same (del H p) H := fun b o e => by
  unfold del at e
  split at e
  · cases e
  · exact e
theorem Same.del (e : Same H H') (h : H p = none) : Same H (del H' p) := fun b o ha => by rw [del_ne (ne_of_none ha h)]; exact e b o ha
theorem del_at (h : H a = some o) (hp : a ≠ p) : del H p a = some o := by rw [del_ne hp]; exact h
/-- what two heaps have, the first one's word first -/
def cup (H H' : Hp) : Hp := fun b => match H b with
  | some o => some o
  | none => H' b
theorem cup_l : Same H (cup H H') := fun b o e => by unfold cup; rw [e]
theorem cup_r (h : ∀ b, H' b ≠ none → H b = none) : Same H' (cup H H') := fun b o e => by
  unfold cup
  rw [h b (by rw [e]; intro z; cases z)]
  exact e
theorem cup_to (h1 : Same H H2) (h2 : Same H' H2) : Same (cup H H') H2 := fun b o e => by
  unfold cup at e
  cases q : H b with
  | some o' =>
    rw [q] at e
    exact h1 b o (by rw [q]; exact e)
  | none =>
    rw [q] at e
    exact h2 b o e
theorem cup_none (h : H b = none) (h' : H' b = none) : cup H H' b = none := by unfold cup; rw [h]; exact h'
end
/-! ### ends of promises -/
/-- a new list | tuple of these; a value, the heap grown -/
def NewL (H : Hp) (Q : VK) (xs : List V) : Prop := ∀ H' p, Same H H' → H p = none → H' p = some (.lst xs) → Q (.ref p) H'
def NewT (H : Hp) (Q : VK) (xs : List V) : Prop := ∀ H' p, Same H H' → H p = none → H' p = some (.tup xs) → Q (.ref p) H'
abbrev NewI (H : Hp) (Q : VK) (ns : List Int) : Prop := NewL H Q (ns.map V.int)
def Ret (H : Hp) (Q : VK) (v : V) : Prop := ∀ H', Same H H' → Q v H'
/-- a new thing y that stands for e by the new part N of the heap -/
def NewD {ε : Type} (O : ε → V → Hp → Prop) (H : Hp) (Q : VK) (e : ε) : Prop := ∀ H' N y, Same H H' → Same N H' → (∀ b, N b ≠ none → H b = none) → O e y N → Q y H'
abbrev Mono {ε : Type} (O : ε → V → Hp → Prop) : Prop := ∀ e y H H', Same H H' → O e y H → O e y H'
def OInt : Int → V → Hp → Prop := fun i y _ => y = .int i
def OLst : List Int → V → Hp → Prop := fun ns y H => ∃ p, y = .ref p ∧ H p = some (.lst (ns.map V.int))
def OTup : List Int → V → Hp → Prop := fun ns y H => ∃ p, y = .ref p ∧ H p = some (.tup (ns.map V.int))
theorem mono_OInt : Mono OInt := fun _ _ _ _ _ h => h
theorem mono_OLst : Mono OLst := fun _ _ _ _ s ⟨p, e, h⟩ => ⟨p, e, s _ _ h⟩
theorem mono_OTup : Mono OTup := fun _ _ _ _ s ⟨p, e, h⟩ => ⟨p, e, s _ _ h⟩
/-- rows of things -/
def ORow {ε : Type} (O : ε → V → Hp → Prop) : List ε → V → Hp → Prop := fun es y H => ∃ p ys, y = .ref p ∧ H p = some (.lst ys) ∧ Paired (fun e y => O e y H) es ys
theorem mono_ORow {ε : Type} {O : ε → V → Hp → Prop} (m : Mono O) : Mono (ORow O) := fun _ _ _ _ s ⟨p, ys, e, h, r⟩ => ⟨p, ys, e, s _ _ h, Paired.mapP r fun _ _ z => m _ _ _ _ s z⟩
theorem paired_get {α β : Type} {R : α → β → Prop} : ∀ {xs : List α} {ys : List β}, Paired R xs ys → ∀ {i : Nat} {x : α}, xs[i]? = some x → ∃ y, ys[i]? = some y ∧ R x y
  | _, _, .nil, i, x, h => by simp at h
  | _, _, .cons r t, 0, x, h => by
    simp at h; subst h; exact ⟨_, rfl, r⟩
  | _, _, .cons r t, i + 1, x, h => by
    obtain ⟨y, e, q⟩ := paired_get t (i := i) (x := x) (by simpa using h)
    exact ⟨y, by simpa using e, q⟩
theorem paired_get' {α β : Type} {R : α → β → Prop} : ∀ {xs : List α} {ys : List β}, Paired R xs ys → ∀ {i : Nat} {y : β}, ys[i]? = some y → ∃ x, xs[i]? = some x ∧ R x y
  | _, _, .nil, i, x, h => by simp at h
  | _, _, .cons r t, 0, x, h => by
    simp at h; subst h; exact ⟨_, rfl, r⟩
  | _, _, .cons r t, i + 1, x, h => by
    obtain ⟨y, e, q⟩ := paired_get' t (i := i) (y := x) (by simpa using h)
    exact ⟨y, by simpa using e, q⟩
theorem paired_ints : ∀ ns : List Int, ∀ H : Hp, Paired (fun e y => OInt e y H) ns (ns.map V.int)
  | [], _ => .nil
  | n :: ns, H => .cons rfl (paired_ints ns H)
theorem ints_paired {H : Hp} : ∀ {ns : List Int} {ys : List V}, Paired (fun e y => OInt e y H) ns ys → ys = ns.map V.int
  | _, _, .nil => rfl
  | _, _, .cons r t => by
    have ih := ints_paired t
    have r' := r
    unfold OInt at r'
    rw [List.map_cons, ← ih, r']
theorem take_more {α : Type} : ∀ {l : List α} {i : Nat} {x : α}, l[i]? = some x → l.take (i + 1) = l.take i ++ [x]
  | [], i, x, h => by simp at h
  | a :: l, 0, x, h => by
    have e : a = x := Option.some.inj h
    subst e
    rfl
  | a :: l, i + 1, x, h => by
    have ih := take_more (l := l) (i := i) (x := x) h
    show a :: l.take (i + 1) = a :: l.take i ++ [x]
    rw [ih]
    rfl
/-! ### a comprehension that only makes objects -/
section
variable {K : PySem.W.Frag} {a : Addr} {xs : List V} {g : TG} {tt : TT} {te : TE} {vs : List Nat} {σ : L2.St} {H1 : Hp} {D : Addr} {Qd : Hp → Prop}
/-- one turn: what it makes, or that it makes nothing -/
def Turn1 {δ ε : Type} (O : ε → V → Hp → Prop) (sel : δ → Bool) (F : δ → ε) (g : TG) (tt : TT) (te : TE) (vs : List Nat) (σ : L2.St) (H1 : Hp) (D : Addr) (d : δ) (x : V) (H : Hp) : Prop :=
  ∀ (k : V → Hp → Prop) (n : Hp → Prop), (sel d = true → ∀ y H', Same H H' → O (F d) y (del H' D) → k y H') → (sel d = false → ∀ H', Same H H' → n H') →
    g x (wipe σ vs) H fun σ2 H2 => wipe σ2 vs = wipe σ vs ∧ tt σ2 H2 fun b H3 => if b = true then te σ2 H3 k else n H3
/-- what is known between the turns -/
def LcInv {δ ε : Type} (O : ε → V → Hp → Prop) (sel : δ → Bool) (F : δ → ε) (H1 : Hp) (D : Addr) (ds : List δ) (H : Hp) : Prop :=
  ∃ ys N, H D = some (.lst ys) ∧ Same H1 N ∧ Same N H ∧ N D = none ∧ ys.length ≤ ds.length ∧ Paired (fun e y => O e y N) ((ds.filter sel).map F) ys
theorem LcInv.start {δ ε : Type} {O : ε → V → Hp → Prop} {sel : δ → Bool} {F : δ → ε} (hD : H1 D = none) : LcInv O sel F H1 D ([] : List δ) (upd H1 D (.lst [])) :=
  ⟨[], H1, upd_same, fun _ _ e => e, Same.new hD, hD, Nat.le_refl _, .nil⟩
theorem LcInv.turn {δ ε : Type} {O : ε → V → Hp → Prop} {sel : δ → Bool} {F : δ → ε} (mO : Mono O) {ds : List δ} {d : δ} {x : V} {H : Hp} (I : LcInv O sel F H1 D ds H) (hz : ds.length < sizeLine) {M : Hp → Prop} (hM : ∀ H', LcInv O sel F H1 D (ds ++ [d]) H' → M H') (hD : H1 D = none)
    (t : Turn1 O sel F g tt te vs σ H1 D d x H) :
    g x (wipe σ vs) H fun σ2 H2 => wipe σ2 vs = wipe σ vs ∧ tt σ2 H2 fun b H3 => if b = true then te σ2 H3 fun y H4 => ∃ acc, H4 D = some (.lst acc) ∧ acc.length < sizeLine ∧ M (upd H4 D (.lst (acc ++ [y]))) else M H3 := by
  obtain ⟨ys, N, hy, s1, s2, nD, hl, r⟩ := I
  refine t _ _ (fun hs y H' sH ho => ?_) fun hs H' sH => ?_
  · have sN : Same H1 (del H' D) := Same.del ((s1.trans s2).trans sH) hD
    have sN' : Same (del H' D) H' := del_sub
    have nD' : del H' D D = none := del_same
    revert ho
    generalize del H' D = N' at sN sN' nD'
    intro ho
    refine ⟨ys, sH _ _ hy, by omega, hM _ ⟨ys ++ [y], cup N' (del (cup N N') D), upd_same, sN.trans cup_l, ?_, cup_none nD' del_same, ?_, ?_⟩⟩
    · have e : Same (cup N' (del (cup N N') D)) (del H' D) := cup_to (fun b o e => by rw [del_ne (ne_of_none e nD')]; exact sN' b o e) (fun b o e => by
        have hb : b ≠ D := fun z => by rw [z, del_same] at e; cases e
        rw [del_ne hb]
        rw [del_ne hb] at e
        exact cup_to (s2.trans sH) sN' b o e)
      exact fun b o q => by
        have q' := e b o q
        have hb : b ≠ D := fun z => by rw [z, del_same] at q'; cases q'
        rw [upd_ne hb]
        rw [del_ne hb] at q'
        exact q'
    · rw [List.length_append, List.length_append]; simp; omega
    · rw [List.filter_append, List.map_append]
      have e1 : ([d].filter sel).map F = [F d] := by simp [hs]
      rw [e1]
      have sNN : Same N (cup N' (del (cup N N') D)) := fun b o e => by
        unfold cup
        cases q : N' b with
        | some o' =>
          have h1 := sN' b o' q
          have h2 := sH b o (s2 b o e)
          rw [h1] at h2
          exact h2
        | none =>
          show del (cup N N') D b = some o
          rw [del_ne (ne_of_none e nD)]
          exact cup_l b o e
      exact Paired.snoc (Paired.mapP r fun e y z => mO e y _ _ sNN z) (mO _ _ _ _ cup_l ho)
  · refine hM _ ⟨ys, N, sH _ _ hy, s1, s2.trans sH, nD, by rw [List.length_append]; omega, ?_⟩
    rw [List.filter_append, List.map_append]
    have e1 : ([d].filter sel).map F = [] := by simp [hs]
    rw [e1, List.append_nil]
    exact r
/-- over a list -/
theorem lc_all {δ ε : Type} (ds : List δ) (I : δ → V → Hp → Prop) (O : ε → V → Hp → Prop) (sel : δ → Bool) (F : δ → ε) (mI : Mono I) (mO : Mono O)
    (hin : Paired (fun d x => I d x H1) ds xs) (hx : SqL K H1 a xs) (hz : xs.length ≤ sizeLine) (hD : H1 D = none)
    (hs : ∀ d x H, d ∈ ds → Same H1 H → I d x H → H D ≠ none → Turn1 O sel F g tt te vs σ H1 D d x H)
    (hd : ∀ H N ys, Same H1 N → Same N H → N D = none → H D = some (.lst ys) → Paired (fun e y => O e y N) ((ds.filter sel).map F) ys → Qd H) :
    ∃ W : Nat → Nat → Hp → Prop, (∃ m, W 0 m (upd H1 D (.lst []))) ∧ ∀ i m H, W i m H →
      ((Itl K a).stop i H ∧ Qd H) ∨ ((Itl K a).go i H ∧ ∃ Nx : Hp → Prop, (∀ H', Nx H' → ∃ m', m' < m ∧ W (i + 1) m' H') ∧ ∀ x H', (Itl K a).yld i H x H' → g x (wipe σ vs) H' fun σ2 H2 => wipe σ2 vs = wipe σ vs ∧ tt σ2 H2 fun b H3 =>
        if b = true then te σ2 H3 fun y H4 => ∃ acc, H4 D = some (.lst acc) ∧ acc.length < sizeLine ∧ Nx (upd H4 D (.lst (acc ++ [y]))) else Nx H3) := by
  have hlen : ds.length = xs.length := Paired.length hin
  refine lc_list (K := K) (a := a) (xs := xs) (fun i H => LcInv O sel F H1 D (ds.take i) H) (LcInv.start hD) (fun i H _ p => ?_) (fun i x H hi p => ?_) fun H p => ?_
  · obtain ⟨_, N, _, s1, s2, _⟩ := p
    exact (s1.trans s2).seq hx
  · obtain ⟨d, hd', hI⟩ := paired_get' hin hi
    have hli : i < ds.length := (List.getElem?_eq_some_iff.mp hd').1
    have e := take_more hd'
    obtain ⟨ys, N, hy, s1, s2, _⟩ := id p
    refine LcInv.turn mO p (by rw [List.length_take]; omega) (fun H' q => by rw [e]; exact q) hD (hs d x H (List.mem_of_getElem? hd') (s1.trans s2) (mI _ _ _ _ (s1.trans s2) hI) (by rw [hy]; intro z; cases z))
  · rw [← hlen, List.take_length] at p
    obtain ⟨ys, N, hy, s1, s2, nD, _, r⟩ := p
    exact hd H N ys s1 s2 nD hy r
/-- over a tuple -/
theorem lc_allT {δ ε : Type} (ds : List δ) (I : δ → V → Hp → Prop) (O : ε → V → Hp → Prop) (sel : δ → Bool) (F : δ → ε) (mI : Mono I) (mO : Mono O)
    (hin : Paired (fun d x => I d x H1) ds xs) (hx : SqT K H1 a xs) (hz : xs.length ≤ sizeLine) (hD : H1 D = none)
    (hs : ∀ d x H, d ∈ ds → Same H1 H → I d x H → H D ≠ none → Turn1 O sel F g tt te vs σ H1 D d x H)
    (hd : ∀ H N ys, Same H1 N → Same N H → N D = none → H D = some (.lst ys) → Paired (fun e y => O e y N) ((ds.filter sel).map F) ys → Qd H) :
    ∃ W : Nat → Nat → Hp → Prop, (∃ m, W 0 m (upd H1 D (.lst []))) ∧ ∀ i m H, W i m H →
      ((Itt K a).stop i H ∧ Qd H) ∨ ((Itt K a).go i H ∧ ∃ Nx : Hp → Prop, (∀ H', Nx H' → ∃ m', m' < m ∧ W (i + 1) m' H') ∧ ∀ x H', (Itt K a).yld i H x H' → g x (wipe σ vs) H' fun σ2 H2 => wipe σ2 vs = wipe σ vs ∧ tt σ2 H2 fun b H3 =>
        if b = true then te σ2 H3 fun y H4 => ∃ acc, H4 D = some (.lst acc) ∧ acc.length < sizeLine ∧ Nx (upd H4 D (.lst (acc ++ [y]))) else Nx H3) := by
  have hlen : ds.length = xs.length := Paired.length hin
  refine lc_tup (K := K) (a := a) (xs := xs) (fun i H => LcInv O sel F H1 D (ds.take i) H) (LcInv.start hD) (fun i H _ p => ?_) (fun i x H hi p => ?_) fun H p => ?_
  · obtain ⟨_, N, _, s1, s2, _⟩ := p
    exact Same.tup (s1.trans s2) hx
  · obtain ⟨d, hd', hI⟩ := paired_get' hin hi
    have hli : i < ds.length := (List.getElem?_eq_some_iff.mp hd').1
    have e := take_more hd'
    obtain ⟨ys, N, hy, s1, s2, _⟩ := id p
    refine LcInv.turn mO p (by rw [List.length_take]; omega) (fun H' q => by rw [e]; exact q) hD (hs d x H (List.mem_of_getElem? hd') (s1.trans s2) (mI _ _ _ _ (s1.trans s2) hI) (by rw [hy]; intro z; cases z))
  · rw [← hlen, List.take_length] at p
    obtain ⟨ys, N, hy, s1, s2, nD, _, r⟩ := p
    exact hd H N ys s1 s2 nD hy r
/-- over range(n) -/
theorem lc_rng {ε : Type} {lo : Int} {n : Nat} (O : ε → V → Hp → Prop) (sel : Nat → Bool) (F : Nat → ε) (mO : Mono O) (hz : n ≤ sizeLine) (hD : H1 D = none)
    (hs : ∀ i H, i < n → Same H1 H → H D ≠ none → Turn1 O sel F g tt te vs σ H1 D i (.int (lo + i)) H)
    (hd : ∀ H N ys, Same H1 N → Same N H → N D = none → H D = some (.lst ys) → Paired (fun e y => O e y N) (((List.range n).filter sel).map F) ys → Qd H) :
    ∃ W : Nat → Nat → Hp → Prop, (∃ m, W 0 m (upd H1 D (.lst []))) ∧ ∀ i m H, W i m H →
      ((Itr lo n).stop i H ∧ Qd H) ∨ ((Itr lo n).go i H ∧ ∃ Nx : Hp → Prop, (∀ H', Nx H' → ∃ m', m' < m ∧ W (i + 1) m' H') ∧ ∀ x H', (Itr lo n).yld i H x H' → g x (wipe σ vs) H' fun σ2 H2 => wipe σ2 vs = wipe σ vs ∧ tt σ2 H2 fun b H3 =>
        if b = true then te σ2 H3 fun y H4 => ∃ acc, H4 D = some (.lst acc) ∧ acc.length < sizeLine ∧ Nx (upd H4 D (.lst (acc ++ [y]))) else Nx H3) := by
  refine lc_range (lo := lo) (n := n) (fun i H => LcInv O sel F H1 D (List.range i) H) (LcInv.start hD) (fun i H hi p => ?_) fun H p => ?_
  · obtain ⟨ys, N, hy, s1, s2, _⟩ := id p
    exact LcInv.turn mO p (by rw [List.length_range]; omega) (fun H' q => by rw [List.range_succ]; exact q) hD (hs i H hi (s1.trans s2) (by rw [hy]; intro z; cases z))
  · obtain ⟨ys, N, hy, s1, s2, nD, _, r⟩ := p
    exact hd H N ys s1 s2 nD hy r
/-- over any walk that leaves the heap -/
theorem lc_gen {J : It} {n : Nat} {X : Nat → V → Prop} (wk : Walk J n (fun _ => True) (fun i H x H' => H' = H ∧ X i x)) {δ ε : Type} (ds : List δ) (O : ε → V → Hp → Prop) (sel : δ → Bool) (F : δ → ε) (mO : Mono O) (hl : ds.length = n) (hz : n ≤ sizeLine) (hD : H1 D = none)
    (hs : ∀ i d x H, ds[i]? = some d → X i x → Same H1 H → H D ≠ none → Turn1 O sel F g tt te vs σ H1 D d x H)
    (hd : ∀ H N ys, Same H1 N → Same N H → N D = none → H D = some (.lst ys) → Paired (fun e y => O e y N) ((ds.filter sel).map F) ys → Qd H) :
    ∃ W : Nat → Nat → Hp → Prop, (∃ m, W 0 m (upd H1 D (.lst []))) ∧ ∀ i m H, W i m H →
      (J.stop i H ∧ Qd H) ∨ (J.go i H ∧ ∃ Nx : Hp → Prop, (∀ H', Nx H' → ∃ m', m' < m ∧ W (i + 1) m' H') ∧ ∀ x H', J.yld i H x H' → g x (wipe σ vs) H' fun σ2 H2 => wipe σ2 vs = wipe σ vs ∧ tt σ2 H2 fun b H3 =>
        if b = true then te σ2 H3 fun y H4 => ∃ acc, H4 D = some (.lst acc) ∧ acc.length < sizeLine ∧ Nx (upd H4 D (.lst (acc ++ [y]))) else Nx H3) := by
  refine lc_it wk (fun i H => LcInv O sel F H1 D (ds.take i) H) (LcInv.start hD) (fun _ _ _ _ => trivial) (fun i x H H' hi p y => ?_) fun H p => ?_
  · obtain ⟨rfl, hX⟩ := y
    have hli : i < ds.length := by omega
    have hd' : ds[i]? = some ds[i] := List.getElem?_eq_getElem hli
    have e := take_more hd'
    obtain ⟨ys, N, hy, s1, s2, _⟩ := id p
    exact LcInv.turn mO p (by rw [List.length_take]; omega) (fun H' q => by rw [e]; exact q) hD (hs i _ x _ hd' hX (s1.trans s2) (by rw [hy]; intro z; cases z))
  · rw [← hl, List.take_length] at p
    obtain ⟨ys, N, hy, s1, s2, nD, _, r⟩ := p
    exact hd H N ys s1 s2 nD hy r
/-- range(lo, .., c) -/
theorem lc_rngC {lo c : Int} {n : Nat} {ε : Type} (O : ε → V → Hp → Prop) (sel : Nat → Bool) (F : Nat → ε) (mO : Mono O) (hz : n ≤ sizeLine) (hD : H1 D = none)
    (hs : ∀ i H, i < n → Same H1 H → H D ≠ none → Turn1 O sel F g tt te vs σ H1 D i (.int (lo + (i : Nat) * c)) H)
    (hd : ∀ H N ys, Same H1 N → Same N H → N D = none → H D = some (.lst ys) → Paired (fun e y => O e y N) (((List.range n).filter sel).map F) ys → Qd H) :
    ∃ W : Nat → Nat → Hp → Prop, (∃ m, W 0 m (upd H1 D (.lst []))) ∧ ∀ i m H, W i m H →
      ((Itc lo c n).stop i H ∧ Qd H) ∨ ((Itc lo c n).go i H ∧ ∃ Nx : Hp → Prop, (∀ H', Nx H' → ∃ m', m' < m ∧ W (i + 1) m' H') ∧ ∀ x H', (Itc lo c n).yld i H x H' → g x (wipe σ vs) H' fun σ2 H2 => wipe σ2 vs = wipe σ vs ∧ tt σ2 H2 fun b H3 =>
        if b = true then te σ2 H3 fun y H4 => ∃ acc, H4 D = some (.lst acc) ∧ acc.length < sizeLine ∧ Nx (upd H4 D (.lst (acc ++ [y]))) else Nx H3) := by
  refine lc_gen (X := fun i x => x = .int (lo + (i : Nat) * c)) walk_rangeC (List.range n) O sel F mO List.length_range hz hD (fun i d x H hi hx s hn => ?_) hd
  have hlt : i < n := by
    have h := (List.getElem?_eq_some_iff.mp hi).1
    rwa [List.length_range] at h
  rw [List.getElem?_range hlt] at hi
  cases hi
  subst hx
  exact hs i H hlt s hn
/-- a text, sign by sign -/
theorem lc_str {z : Str} {ε : Type} (O : ε → V → Hp → Prop) (sel : Nat → Bool) (F : Nat → ε) (mO : Mono O) (hz : z.cps.size ≤ sizeLine) (hD : H1 D = none)
    (hs : ∀ c H, c ∈ z.cps.toList → Same H1 H → H D ≠ none → Turn1 O sel F g tt te vs σ H1 D c (.str ⟨#[c]⟩) H)
    (hd : ∀ H N ys, Same H1 N → Same N H → N D = none → H D = some (.lst ys) → Paired (fun e y => O e y N) ((z.cps.toList.filter sel).map F) ys → Qd H) :
    ∃ W : Nat → Nat → Hp → Prop, (∃ m, W 0 m (upd H1 D (.lst []))) ∧ ∀ i m H, W i m H →
      ((Its z).stop i H ∧ Qd H) ∨ ((Its z).go i H ∧ ∃ Nx : Hp → Prop, (∀ H', Nx H' → ∃ m', m' < m ∧ W (i + 1) m' H') ∧ ∀ x H', (Its z).yld i H x H' → g x (wipe σ vs) H' fun σ2 H2 => wipe σ2 vs = wipe σ vs ∧ tt σ2 H2 fun b H3 =>
        if b = true then te σ2 H3 fun y H4 => ∃ acc, H4 D = some (.lst acc) ∧ acc.length < sizeLine ∧ Nx (upd H4 D (.lst (acc ++ [y]))) else Nx H3) := by
  refine lc_gen (X := fun i x => ∃ c, z.cps[i]? = some c ∧ x = .str ⟨#[c]⟩) walk_str z.cps.toList O sel F mO (by simp) hz hD (fun i d x H hi hx s hn => ?_) hd
  obtain ⟨c, hc, rfl⟩ := hx
  have e : d = c := by
    rw [Array.getElem?_toList, hc] at hi
    exact (Option.some.inj hi).symm
  subst e
  exact hs d H (List.mem_of_getElem? hi) s hn
/-- ints out -/
theorem out_int {δ : Type} {sel : δ → Bool} {F : δ → Int} {N : Hp} {ds : List δ} {ys : List V} (r : Paired (fun e y => OInt e y N) ((ds.filter sel).map F) ys) : ys = ((ds.filter sel).map F).map V.int := ints_paired r
end
abbrev yes {δ : Type} : δ → Bool := fun _ => true
theorem filter_yes {δ : Type} (ds : List δ) : ds.filter yes = ds := List.filter_eq_self.mpr fun _ _ => rfl
section
variable {K : PySem.W.Frag} {a : Addr} {xs : List V} {g : TG} {te : TE} {vs : List Nat} {σ : L2.St} {H1 : Hp} {D : Addr} {Qd : Hp → Prop}
/-- [F(i) for i in t], t a tuple of ints -/
theorem lcT_ints (ns : List Int) (F : Int → Int) (hx : SqT K H1 a (ns.map V.int)) (hz : ns.length ≤ sizeLine) (hD : H1 D = none)
    (hs : ∀ i H k, i ∈ ns → Same H1 H → (∀ H', Same H H' → k (.int (F i)) H') → g (.int i) (wipe σ vs) H fun σ2 H2 => wipe σ2 vs = wipe σ vs ∧ te σ2 H2 k)
    (hd : ∀ H, Same H1 H → H D = some (.lst ((ns.map F).map V.int)) → Qd H) :
    ∃ W : Nat → Nat → Hp → Prop, (∃ m, W 0 m (upd H1 D (.lst []))) ∧ ∀ i m H, W i m H →
      ((Itt K a).stop i H ∧ Qd H) ∨ ((Itt K a).go i H ∧ ∃ Nx : Hp → Prop, (∀ H', Nx H' → ∃ m', m' < m ∧ W (i + 1) m' H') ∧ ∀ x H', (Itt K a).yld i H x H' → g x (wipe σ vs) H' fun σ2 H2 => wipe σ2 vs = wipe σ vs ∧ tYes σ2 H2 fun b H3 =>
        if b = true then te σ2 H3 fun y H4 => ∃ acc, H4 D = some (.lst acc) ∧ acc.length < sizeLine ∧ Nx (upd H4 D (.lst (acc ++ [y]))) else Nx H3) := by
  refine lc_allT ns OInt OInt yes F mono_OInt mono_OInt (paired_ints ns H1) hx (by rw [List.length_map]; exact hz) hD (fun d x H hm s hI hn k n hk _ => ?_) fun H N ys s1 s2 nD hy r => ?_
  · cases hI
    exact hs d H k hm s fun H' sH => hk rfl _ _ sH rfl
  · have e := out_int r
    rw [filter_yes] at e
    rw [e] at hy
    exact hd H (s1.trans s2) hy
theorem lcL_ints (ns : List Int) (F : Int → Int) (hx : SqL K H1 a (ns.map V.int)) (hz : ns.length ≤ sizeLine) (hD : H1 D = none)
    (hs : ∀ i H k, i ∈ ns → Same H1 H → (∀ H', Same H H' → k (.int (F i)) H') → g (.int i) (wipe σ vs) H fun σ2 H2 => wipe σ2 vs = wipe σ vs ∧ te σ2 H2 k)
    (hd : ∀ H, Same H1 H → H D = some (.lst ((ns.map F).map V.int)) → Qd H) :
    ∃ W : Nat → Nat → Hp → Prop, (∃ m, W 0 m (upd H1 D (.lst []))) ∧ ∀ i m H, W i m H →
      ((Itl K a).stop i H ∧ Qd H) ∨ ((Itl K a).go i H ∧ ∃ Nx : Hp → Prop, (∀ H', Nx H' → ∃ m', m' < m ∧ W (i + 1) m' H') ∧ ∀ x H', (Itl K a).yld i H x H' → g x (wipe σ vs) H' fun σ2 H2 => wipe σ2 vs = wipe σ vs ∧ tYes σ2 H2 fun b H3 =>
        if b = true then te σ2 H3 fun y H4 => ∃ acc, H4 D = some (.lst acc) ∧ acc.length < sizeLine ∧ Nx (upd H4 D (.lst (acc ++ [y]))) else Nx H3) := by
  refine lc_all ns OInt OInt yes F mono_OInt mono_OInt (paired_ints ns H1) hx (by rw [List.length_map]; exact hz) hD (fun d x H hm s hI hn k n hk _ => ?_) fun H N ys s1 s2 nD hy r => ?_
  · cases hI
    exact hs d H k hm s fun H' sH => hk rfl _ _ sH rfl
  · have e := out_int r
    rw [filter_yes] at e
    rw [e] at hy
    exact hd H (s1.trans s2) hy
end
end KW
end

section
set_option Elab.async false
set_option linter.all false
set_option maxRecDepth 100000
set_option maxHeartbeats 4000000
/-! The kit's rules with the written part named: within a comprehension it must not be read off the block. -/
namespace KR
open PySem PySem.Spec PyProof.Rows L2
section
variable {X : Cx} {K : PySem.W.Frag} {pos : Pos} {tg : Expr}
def rLenS (K : PySem.W.Frag) : List V → Hp → VK → Prop := fun xs H Q => ∃ p ys, xs = [.ref p] ∧ (SqL K H p ys ∨ SqT K H p ys) ∧ Q (.int ys.length) H
theorem ix_listK (hK : X.K = K) : IxR X (rIxL K) := hK ▸ ix_list
theorem ix_tupK (hK : X.K = K) : IxR X (rIxT K) := hK ▸ ix_tup
theorem sl_listK (hK : X.K = K) : SlR X (rSlL K) := hK ▸ sl_list
theorem sl_tupAK (hK : X.K = K) : SlR X (rSlA K) := hK ▸ sl_tupA
theorem call_len_seqK (hK : X.K = K) : CallR X (.builtin "len") (rLenS K) := hK ▸ call_len_seq
theorem op_eqDK (hK : X.K = K) (hu : X.A.units + 64 < cLine) : OpR X (compareOp .Eq) (rEqD K) := hK ▸ op_eqD hu
theorem op_neDK (hK : X.K = K) (hu : X.A.units + 64 < cLine) : OpR X (compareOp .NotEq) (rNeD K) := hK ▸ op_neD hu
def rTupOf (K : PySem.W.Frag) : List V → Hp → VK → Prop := fun xs H Q => ∃ p ys, xs = [.ref p] ∧ ((SqL K H p ys ∧ ∀ l, H l = none → Q (.ref l) (upd H l (.tup ys))) ∨ (SqT K H p ys ∧ Q (.ref p) H))
theorem call_tuple_ofK (hK : X.K = K) : CallR X (.type "tuple") (rTupOf K) := hK ▸ call_tuple_of
theorem pi_listK (hK : X.K = K) {l : Expr} {tl : TE} (hl : PE X l tl) : PI X tg l (iList K tl) := hK ▸ pi_list hl
theorem pi_tupK (hK : X.K = K) {l : Expr} {tl : TE} (hl : PE X l tl) : PI X tg l (iTup K tl) := hK ▸ pi_tup hl
theorem pg_tupK (hK : X.K = K) {es : List Expr} {k : Nat} {t : TGs} {n : Nat} (hc : X.calm = true) (h : PGs X es t)
    (hn : (assignEach es X.env).length = n := by rfl) (hst : (assignEach es X.env).findIdx? (·.1) = none := by rfl) : PG X (.Tuple es k pos) (gTup K n t) := hK ▸ pg_tup hc h hn hst
theorem pe_lenSetK (hK : X.K = K) {a : Expr} {ta : TE} {p p2 q pos : Pos} (hc : X.calm = true) (hg : Gl X "len") (hm : X.mg "len" = none) (hg2 : Gl X "set") (hm2 : X.mg "set" = none) (ha : PE X a ta)
    (na : starEach [a] X.env = (false, eval a X.env) :: starEach [] X.env := by rfl) : PE X (.Call (.Name "len" p) [.Call (.Name "set" p2) [a] [] q] [] pos) (tLenSet K ta) := hK ▸ pe_lenSet hc hg hm hg2 hm2 ha na
theorem pe_fldK (hK : X.K = K) {e : Expr} {f : Str} {ta : TE} (he : PE X e ta) (hb : attributeBase e f X.env (eval e X.env) = eval e X.env) : PE X (.Attribute e f pos) (tFld K ta f) := hK ▸ pe_fld he hb
end
end KR
end

section
set_option Elab.async false
set_option linter.all false
set_option maxRecDepth 100000
set_option maxHeartbeats 4000000
/-! bytework: mirrors, promises. -/
namespace KW
open PySem PySem.Spec PyProof.Rows L2 KR
/-! ### the mathematics -/
def byteBits (v : Int) : List Int := vals_BIT_WEIGHTS.map fun w => v / w % 2
def bitsByte (bits : List Int) : Int := bits.foldl (fun a b => 2 * a + b) 0
def crcBit (n b : Int) : Int := if n / 32768 = b then 2 * n % 65536 else Builtin.bitXor (2 * n % 65536) 4129
def stepI (n v : Int) : Int := (byteBits v).foldl crcBit n
def crcI (vs : List Int) : Int := vs.foldl stepI 65535
def twoBytes (n : Int) : List Int := [n / 256, n % 256]
theorem foldl_take {α β : Type} (f : β → α → β) (b : β) {l : List α} {i : Nat} {x : α} (h : l[i]? = some x) : (l.take (i + 1)).foldl f b = f ((l.take i).foldl f b) x := by
  rw [take_more h, List.foldl_append]
  rfl
theorem map_at {ns : List Int} {i : Nat} {x : V} (h : (ns.map V.int)[i]? = some x) : ∃ n, ns[i]? = some n ∧ x = .int n := by
  rw [List.getElem?_map] at h
  cases e : ns[i]? with
  | none => rw [e] at h; cases h
  | some n =>
    rw [e] at h
    exact ⟨n, rfl, (Option.some.inj h).symm⟩
section
variable {P : Program} {w : World} {K : PySem.W.Frag} {mg : Str → Option Value} {base : Heap}
def sp_byte_bits (K : PySem.W.Frag) : Sp := fun vs H Q _ => ∃ v, vs = [.int v] ∧ NewI H Q (byteBits v)
abbrev N_byte_bits : List Str := ["value", "weight"]
theorem sc_byte_bits : FnScope N_byte_bits ["value"] (defScope s_byte_bits) := ⟨rfl, rfl, rfl, by decide +kernel, rfl, by decide +kernel, by decide +kernel⟩
theorem ok_byte_bits (W : T K mg) : Ok P w K mg base (1) "byte_bits" ["value"] (sp_byte_bits K) := by
  refine W.f_byte_bits.F.ok sc_byte_bits (fun vs H Q E h => ?_) (fun cdv A outer s H vs Q E hr h => ?_)
  · obtain ⟨v, rfl, _⟩ := h
    rfl
  · obtain ⟨v, rfl, q⟩ := h
    refine ⟨_, PSs.nox ((pss_one
       (ps_ret (pe_lc (own := [("weight", 1)]) rfl sc_byte_bits.nd (pi_tup (pgT W.T_BIT_WEIGHTS)) (blkOk_by (own := [("weight", 1)]) (N := N_byte_bits) (sc := defScope s_byte_bits) (by decide +kernel)) (fun _ _ _ _ _ => (pg_name (i := 1) sc_byte_bits.nd rfl (Or.inl rfl))) (fun _ _ _ _ _ => pts_nil) (fun _ _ _ _ _ => (pe_op op_mod (pe_op op_fdiv (pv 0) (pv 1)) pe_int)))))), ?_⟩
    refine ⟨_, rfl, ⟨_, W.T_BIT_WEIGHTS.2.sqT H⟩, fun D hD => lcT_ints vals_BIT_WEIGHTS (fun w => v / w % 2) (W.T_BIT_WEIGHTS.2.sqT H) (by decide) hD (fun i H1 k hm s hk => ?_) fun H1 s hd => q _ _ s hD hd⟩
    refine ⟨rfl, _, rfl, _, rfl, _, _, rfl, rfl, ?_, _, _, rfl, rfl, (by show (0 : Int) < 2; decide), hk _ (Same.refl _)⟩
    have h2 : ∀ i ∈ vals_BIT_WEIGHTS, CDiv v i := fun i hi => by
      have := (by decide : ∀ i ∈ vals_BIT_WEIGHTS, 0 < i ∧ i < 1073741824) i hi
      exact this
    exact h2 i hm
def sp_bits_byte (K : PySem.W.Frag) : Sp := fun vs H Q _ => ∃ a bits, vs = [.ref a] ∧ SqL K H a (bits.map V.int) ∧ Q (.int (bitsByte bits)) H
abbrev N_bits_byte : List Str := ["bits", "value", "bit"]
theorem sc_bits_byte : FnScope N_bits_byte ["bits"] (defScope s_bits_byte) := ⟨rfl, rfl, rfl, by decide +kernel, rfl, by decide +kernel, by decide +kernel⟩
theorem ok_bits_byte (W : T K mg) : Ok P w K mg base (1) "bits_byte" ["bits"] (sp_bits_byte K) := by
  refine W.f_bits_byte.F.ok sc_bits_byte (fun vs H Q E h => ?_) (fun cdv A outer s H vs Q E hr h => ?_)
  · obtain ⟨a, bits, rfl, _⟩ := h
    rfl
  · obtain ⟨a, bits, rfl, hl, q⟩ := h
    refine ⟨_, PSs.nox ((pss_cons
       (ps_set (i := 1) sc_bits_byte.nd rfl (Or.inl rfl) pe_int)
       (pss_cons
       (ps_for PassesOwn.never rfl (pi_list (pv 0)) (pg_name (i := 2) sc_bits_byte.nd rfl (Or.inl rfl)) (pss_one
       (ps_set (i := 1) sc_bits_byte.nd rfl (Or.inl rfl) (pe_op op_add (pe_op op_mul pe_int (pv 1)) (pv 2)))))
       (pss_one
       (ps_ret (pv 1)))))), ?_⟩
    refine ⟨_, rfl, _, rfl, ⟨_, hl⟩, ?_⟩
    refine for_list (xs := bits.map V.int) (fun i σ H' => H' = H ∧ ∃ y, σ = [some (.ref a), some (.int (bitsByte (bits.take i))), y]) ⟨rfl, _, rfl⟩ (fun i σ H' _ p => by rw [p.1]; exact hl) (fun i x σ H' hx p => ?_) fun σ H' p => ?_
    · obtain ⟨rfl, y, rfl⟩ := p
      obtain ⟨n, hn, rfl⟩ := map_at hx
      refine ⟨_, rfl, _, _, rfl, rfl, .inl ⟨by decide, by decide⟩, _, rfl, _, _, rfl, rfl, rfl, some (.int n), ?_⟩
      unfold bitsByte
      rw [foldl_take _ _ hn]
      rfl
    · obtain ⟨rfl, y, rfl⟩ := p
      refine ⟨_, rfl, ?_⟩
      rw [List.length_map, List.take_length]
      exact q
def sp_exclusive (K : PySem.W.Frag) : Sp := fun vs H Q _ => ∃ a b, vs = [.int a, .int b] ∧ Q (.int (Builtin.bitXor a b)) H
abbrev N_exclusive : List Str := ["first", "second"]
theorem sc_exclusive : FnScope N_exclusive ["first", "second"] (defScope s_exclusive) := ⟨rfl, rfl, rfl, by decide +kernel, rfl, by decide +kernel, by decide +kernel⟩
theorem ok_exclusive (W : T K mg) : Ok P w K mg base (1) "exclusive" ["first", "second"] (sp_exclusive K) := by
  refine W.f_exclusive.F.ok sc_exclusive (fun vs H Q E h => ?_) (fun cdv A outer s H vs Q E hr h => ?_)
  · obtain ⟨a, b, rfl, _⟩ := h
    rfl
  · obtain ⟨a, b, rfl, q⟩ := h
    refine ⟨_, PSs.nox ((pss_one
       (ps_ret (pe_op op_xor (pv 0) (pv 1))))), ?_⟩
    exact ⟨_, rfl, _, rfl, _, _, rfl, rfl, q⟩
def sp_step (K : PySem.W.Frag) : Sp := fun vs H Q _ => ∃ n v, vs = [.int n, .int v] ∧ Ret H Q (.int (stepI n v))
abbrev N_step : List Str := ["number", "value", "bit", "top"]
theorem sc_step : FnScope N_step ["number", "value"] (defScope s_step) := ⟨rfl, rfl, rfl, by decide +kernel, rfl, by decide +kernel, by decide +kernel⟩
theorem ok_step (W : T K mg) : Ok P w K mg base (2) "step" ["number", "value"] (sp_step K) := by
  refine W.f_step.F.ok sc_step (fun vs H Q E h => ?_) (fun cdv A outer s H vs Q E hr h => ?_)
  · obtain ⟨n, v, rfl, _⟩ := h
    rfl
  · obtain ⟨n, v, rfl, q⟩ := h
    refine ⟨_, PSs.nox ((pss_cons
       (ps_for PassesOwn.never rfl (pi_list (pe_call (ok_byte_bits W) (hr.mono (by decide)) (by rfl) W.f_byte_bits.g W.f_byte_bits.F.kp W.f_byte_bits.b .nil pass0 (pa_cons (pv 1) pa_nil))) (pg_name (i := 2) sc_step.nd rfl (Or.inl rfl)) (pss_cons
       (ps_set (i := 3) sc_step.nd rfl (Or.inl rfl) (pe_op op_fdiv (pv 0) (pgi W.i_TOP)))
       (pss_cons
       (ps_set (i := 0) sc_step.nd rfl (Or.inl rfl) (pe_op op_mod (pe_op op_mul pe_int (pv 0)) (pgi W.i_WORD)))
       (pss_one
       (ps_if (pt_cmpR op_ne (pv 3) (pv 2) (nomark _)) (pss_one
       (ps_set (i := 0) sc_step.nd rfl (Or.inl rfl) (pe_call (ok_exclusive W) (hr.mono (by decide)) (by rfl) W.f_exclusive.g W.f_exclusive.F.kp W.f_exclusive.b .nil pass0 (pa_cons (pv 0) (pa_cons (pgi W.i_CRC_MASK) pa_nil))))) pss_nil)))))
       (pss_one
       (ps_ret (pv 0))))), ?_⟩
    refine ⟨_, rfl, _, rfl, fun H1 p s1 np hp => ?_⟩
    refine ⟨_, rfl, ⟨_, SqL.of hp⟩, ?_⟩
    refine for_list (xs := (byteBits v).map V.int) (fun i σ H' => H' = H1 ∧ ∃ y z, σ = [some (.int (((byteBits v).take i).foldl crcBit n)), some (.int v), y, z]) ⟨rfl, _, _, rfl⟩ (fun i σ H' _ p => by rw [p.1]; exact SqL.of hp) (fun i x σ H' hx p => ?_) fun σ H' p => ?_
    · obtain ⟨rfl, y, z, rfl⟩ := p
      obtain ⟨b, hb, rfl⟩ := map_at hx
      generalize hm : ((byteBits v).take i).foldl crcBit n = m
      refine ⟨_, rfl, _, _, rfl, rfl, ⟨by decide, by decide⟩, ?_⟩
      refine ⟨_, rfl, _, _, rfl, rfl, .inl ⟨by decide, by decide⟩, _, _, rfl, rfl, (by show (0 : Int) < 65536; decide), ?_⟩
      refine ⟨_, rfl, _, rfl, rfl, _, rfl, ?_⟩
      have e : ((byteBits v).take (i + 1)).foldl crcBit n = crcBit m b := by rw [foldl_take _ _ hb, hm]
      by_cases hc : m / 32768 = b
      · refine iteNS (by show V.int (m / 32768) = V.int b; rw [hc]) ?_
        refine ⟨rfl, some (.int b), some (.int (m / 32768)), ?_⟩
        rw [e]
        unfold crcBit
        rw [if_pos hc]
        rfl
      · refine ite2 (fun _ => ?_) (fun h => absurd hc (by simpa using h))
        refine ⟨_, rfl, _, _, rfl, rfl, some (.int b), some (.int (m / 32768)), ?_⟩
        rw [e]
        unfold crcBit
        rw [if_neg hc]
        rfl
    · obtain ⟨rfl, y, z, rfl⟩ := p
      refine ⟨_, rfl, ?_⟩
      rw [List.length_map, List.take_length]
      exact q _ s1
def sp_crc (K : PySem.W.Frag) : Sp := fun vs H Q _ => ∃ a ns, vs = [.ref a] ∧ SqL K H a (ns.map V.int) ∧ Ret H Q (.int (crcI ns))
abbrev N_crc : List Str := ["values", "number", "value"]
theorem sc_crc : FnScope N_crc ["values"] (defScope s_crc) := ⟨rfl, rfl, rfl, by decide +kernel, rfl, by decide +kernel, by decide +kernel⟩
theorem ok_crc (W : T K mg) : Ok P w K mg base (3) "crc" ["values"] (sp_crc K) := by
  refine W.f_crc.F.ok sc_crc (fun vs H Q E h => ?_) (fun cdv A outer s H vs Q E hr h => ?_)
  · obtain ⟨a, ns, rfl, _⟩ := h
    rfl
  · obtain ⟨a, ns, rfl, hl, q⟩ := h
    refine ⟨_, PSs.nox ((pss_cons
       (ps_set (i := 1) sc_crc.nd rfl (Or.inl rfl) (pgi W.i_CRC_START))
       (pss_cons
       (ps_for PassesOwn.never rfl (pi_list (pv 0)) (pg_name (i := 2) sc_crc.nd rfl (Or.inl rfl)) (pss_one
       (ps_set (i := 1) sc_crc.nd rfl (Or.inl rfl) (pe_call (ok_step W) (hr.mono (by decide)) (by rfl) W.f_step.g W.f_step.F.kp W.f_step.b .nil pass0 (pa_cons (pv 1) (pa_cons (pv 2) pa_nil))))))
       (pss_one
       (ps_ret (pv 1)))))), ?_⟩
    refine ⟨_, rfl, _, rfl, ⟨_, hl⟩, ?_⟩
    refine for_list (xs := ns.map V.int) (fun i σ H' => Same H H' ∧ ∃ y, σ = [some (.ref a), some (.int ((ns.take i).foldl stepI 65535)), y]) ⟨Same.refl _, _, rfl⟩ (fun i σ H' _ p => p.1.seq hl) (fun i x σ H' hx p => ?_) fun σ H' p => ?_
    · obtain ⟨s, y, rfl⟩ := p
      obtain ⟨n, hn, rfl⟩ := map_at hx
      refine ⟨_, rfl, _, rfl, _, _, rfl, fun H2 s2 => ⟨s.trans s2, some (.int n), ?_⟩⟩
      rw [foldl_take _ _ hn]
      rfl
    · obtain ⟨s, y, rfl⟩ := p
      refine ⟨_, rfl, ?_⟩
      rw [List.length_map, List.take_length]
      exact q _ s
def sp_two_bytes (K : PySem.W.Frag) : Sp := fun vs H Q _ => ∃ n, vs = [.int n] ∧ NewI H Q (twoBytes n)
abbrev N_two_bytes : List Str := ["number"]
theorem sc_two_bytes : FnScope N_two_bytes ["number"] (defScope s_two_bytes) := ⟨rfl, rfl, rfl, by decide +kernel, rfl, by decide +kernel, by decide +kernel⟩
theorem ok_two_bytes (W : T K mg) : Ok P w K mg base (1) "two_bytes" ["number"] (sp_two_bytes K) := by
  refine W.f_two_bytes.F.ok sc_two_bytes (fun vs H Q E h => ?_) (fun cdv A outer s H vs Q E hr h => ?_)
  · obtain ⟨n, rfl, _⟩ := h
    rfl
  · obtain ⟨n, rfl, q⟩ := h
    refine ⟨_, PSs.nox ((pss_one
       (ps_ret (pe_lst (pa_cons (pe_op op_fdiv (pv 0) pe_int) (pa_cons (pe_op op_mod (pv 0) pe_int) pa_nil)))))), ?_⟩
    refine ⟨_, rfl, _, _, rfl, rfl, ⟨by decide, by decide⟩, _, rfl, _, _, rfl, rfl, (by show (0 : Int) < 256; decide), (by show 2 ≤ sizeLine; decide), fun p np => q _ _ (Same.new np) np upd_same⟩
end
end KW
end

section
set_option Elab.async false
set_option linter.all false
set_option maxRecDepth 100000
set_option maxHeartbeats 4000000
/-! encodings: mirrors, promises. -/
namespace KW
open PySem PySem.Spec PyProof.Rows L2 KR
/-! ### the mathematics -/
def allBits (vs : List Int) : List Int := vs.flatMap byteBits
def clockFor (b d : Int) : Int := if b = 0 ∧ d = 0 then 1 else 0
def mfmGo : Int → List Int → List Int
  | _, [] => []
  | b, d :: r => clockFor b d :: d :: mfmGo d r
def mfm (b : Int) (vs : List Int) : List Int := mfmGo b (allBits vs)
def wholeBytes (bits : List Int) : List Int := (List.range (bits.length / 8)).map fun k => bitsByte ((bits.drop (8 * k)).take 8)
def prevBit (b : Int) (bits : List Int) (i : Nat) : Int := if i = 0 then b else bits.getD (i - 1) 0
def faultsOf (b : Int) (cells : List Int) : List Int :=
  ((List.range (8 * ((odds cells).length / 8))).filter fun i => decide (cells.getD (2 * i) 0 ≠ clockFor (prevBit b (odds cells) i) ((odds cells).getD i 0))).map fun (i : Nat) => (i : Int)
theorem byteBits_len (v : Int) : (byteBits v).length = 8 := rfl
theorem allBits_len : ∀ vs : List Int, (allBits vs).length = 8 * vs.length
  | [] => rfl
  | v :: vs => by
    have e : allBits (v :: vs) = byteBits v ++ allBits vs := rfl
    rw [e, List.length_append, allBits_len vs, byteBits_len, List.length_cons]
    omega
theorem allBits_snoc (vs : List Int) (v : Int) : allBits (vs ++ [v]) = allBits vs ++ byteBits v := by
  unfold allBits
  rw [List.flatMap_append]
  rfl
theorem mfmGo_len : ∀ (b : Int) (l : List Int), (mfmGo b l).length = 2 * l.length
  | _, [] => rfl
  | b, d :: r => by
    show (mfmGo d r).length + 1 + 1 = 2 * (r.length + 1)
    rw [mfmGo_len d r]
    omega
theorem mfmGo_app : ∀ (b : Int) (l m : List Int), mfmGo b (l ++ m) = mfmGo b l ++ mfmGo (l.getLastD b) m
  | b, [], m => rfl
  | b, d :: r, m => by
    show clockFor b d :: d :: mfmGo d (r ++ m) = clockFor b d :: d :: (mfmGo d r ++ mfmGo ((d :: r).getLastD b) m)
    rw [mfmGo_app d r m]
    cases r <;> rfl
theorem mfm_len (b : Int) (vs : List Int) : (mfm b vs).length = 16 * vs.length := by
  unfold mfm
  rw [mfmGo_len, allBits_len]
  omega
theorem wholeBytes_len (bits : List Int) : (wholeBytes bits).length = bits.length / 8 := by
  unfold wholeBytes
  rw [List.length_map, List.length_range]
theorem getLastD_snoc {α : Type} (l : List α) (x b : α) : (l ++ [x]).getLastD b = x := by
  rw [List.getLastD_eq_getLast?, List.getLast?_append]
  rfl
theorem at_getD {ns : List Int} {i : Nat} (h : i < ns.length) : (ns.map V.int)[i]? = some (.int (ns.getD i 0)) := by
  rw [List.getElem?_map, List.getElem?_eq_getElem h, List.getD_eq_getElem?_getD, List.getElem?_eq_getElem h]
  rfl
theorem RgC8 {n : Nat} (h : n < 2 ^ 40) : RgC 0 ((n : Int) - 7) 8 (n / 8) := by
  have e : Builtin.Range.rangeSize 0 ((n : Int) - 7) 8 = ((n / 8 : Nat) : Int) := by
    unfold Builtin.Range.rangeSize
    rw [if_pos (by decide)]
    split <;> omega
  refine ⟨by decide, by decide, ?_, e⟩
  unfold Builtin.Range.small
  rw [e]
  simp only [Builtin.Range.rangeFitsLong, Bool.and_eq_true, Bool.or_eq_true, decide_eq_true_eq, beq_iff_eq]
  simp only [show ((8 : Int) > 0) from by decide, if_true]
  refine ⟨by omega, .inr ?_⟩
  have h1 : -2 ^ 63 ≤ (n : Int) - 7 + (8 - 1) := by omega
  have h2 : (n : Int) - 7 + (8 - 1) < 2 ^ 63 := by omega
  rw [decide_eq_true h1, decide_eq_true h2]
  rfl
theorem cutV_nat {xs : List V} {i j : Nat} (h : i ≤ j) : cutV xs (some (i : Int)) (some (j : Int)) = (xs.drop i).take (j - i) := by
  unfold cutV
  rw [HT.sIx_nat, HT.sIx_nat]
  by_cases hi : i ≤ xs.length
  · rw [Nat.min_eq_left hi]
    by_cases hj : j ≤ xs.length
    · rw [Nat.min_eq_left hj]
    · rw [Nat.min_eq_right (by omega), List.take_of_length_le (by rw [List.length_drop]; omega), List.take_of_length_le (by rw [List.length_drop]; omega)]
  · rw [Nat.min_eq_right (by omega), Nat.min_eq_right (by omega), List.drop_eq_nil_of_le (Nat.le_refl _), List.drop_eq_nil_of_le (by omega), List.take_nil, List.take_nil]
section
variable {P : Program} {w : World} {K : PySem.W.Frag} {mg : Str → Option Value} {base : Heap}
def sp_all_bits (K : PySem.W.Frag) : Sp := fun vs H Q _ => ∃ a ns, vs = [.ref a] ∧ SqL K H a (ns.map V.int) ∧ ns.length ≤ 100000 ∧ NewI H Q (allBits ns)
abbrev N_all_bits : List Str := ["values", "bits", "value"]
theorem sc_all_bits : FnScope N_all_bits ["values"] (defScope s_all_bits) := ⟨rfl, rfl, rfl, by decide +kernel, rfl, by decide +kernel, by decide +kernel⟩
theorem ok_all_bits (W : T K mg) : Ok P w K mg base (2) "all_bits" ["values"] (sp_all_bits K) := by
  refine W.f_all_bits.F.ok sc_all_bits (fun vs H Q E h => ?_) (fun cdv A outer s H vs Q E hr h => ?_)
  · obtain ⟨a, ns, rfl, _⟩ := h
    rfl
  · obtain ⟨a, ns, rfl, hl, hz, q⟩ := h
    refine ⟨_, PSs.nox ((pss_cons
       (ps_set (i := 1) sc_all_bits.nd rfl (Or.inl rfl) (pe_lst pa_nil))
       (pss_cons
       (ps_for PassesOwn.never rfl (pi_list (pv 0)) (pg_name (i := 2) sc_all_bits.nd rfl (Or.inl rfl)) (pss_one
       (ps_expr (pe_bm PySem.F.plainAttrs_list PySem.F.slot_list_extend PySem.F.type_list_extend mt_extend (pv 1) (pa_cons (pe_call (ok_byte_bits W) (hr.mono (by decide)) (by rfl) W.f_byte_bits.g W.f_byte_bits.F.kp W.f_byte_bits.b .nil pass0 (pa_cons (pv 2) pa_nil)) pa_nil)))))
       (pss_one
       (ps_ret (pv 1)))))), ?_⟩
    refine ⟨Nat.zero_le _, fun o no => ?_⟩
    refine ⟨_, rfl, _, rfl, ⟨_, (Same.new no).seq hl⟩, ?_⟩
    refine for_list (xs := ns.map V.int) (fun i σ H' => Same H H' ∧ H' o = some (.lst ((allBits (ns.take i)).map V.int)) ∧ ∃ y, σ = [some (.ref a), some (.ref o), y]) ⟨Same.new no, upd_same, _, rfl⟩ (fun i σ H' _ p => p.1.seq hl) (fun i x σ H' hx p => ?_) fun σ H' p => ?_
    · obtain ⟨s, ho, y, rfl⟩ := p
      obtain ⟨n, hn, rfl⟩ := map_at hx
      refine ⟨_, rfl, .inl ⟨rfl, _, SqL.of ho⟩, _, rfl, _, rfl, fun H2 p s2 np hp => ⟨_, _, _, _, rfl, rfl, s2 _ _ ho, hp, ?_, Same.mut (s.trans s2) no, ?_, some (.int n), rfl⟩⟩
      · rw [List.length_map, List.length_map, allBits_len, byteBits_len, List.length_take]
        show _ ≤ 16777216
        omega
      · rw [upd_same, take_more hn, allBits_snoc, List.map_append]
    · obtain ⟨s, ho, y, rfl⟩ := p
      refine ⟨_, rfl, ?_⟩
      rw [List.length_map, List.take_length] at ho
      exact q _ _ s no ho
def sp_whole_bytes (K : PySem.W.Frag) : Sp := fun vs H Q _ => ∃ a bits, vs = [.ref a] ∧ SqL K H a (bits.map V.int) ∧ bits.length ≤ 1000000 ∧ NewI H Q (wholeBytes bits)
abbrev N_whole_bytes : List Str := ["bits", "at"]
theorem sc_whole_bytes : FnScope N_whole_bytes ["bits"] (defScope s_whole_bytes) := ⟨rfl, rfl, rfl, by decide +kernel, rfl, by decide +kernel, by decide +kernel⟩
theorem ok_whole_bytes (W : T K mg) : Ok P w K mg base (2) "whole_bytes" ["bits"] (sp_whole_bytes K) := by
  refine W.f_whole_bytes.F.ok sc_whole_bytes (fun vs H Q E h => ?_) (fun cdv A outer s H vs Q E hr h => ?_)
  · obtain ⟨a, bits, rfl, _⟩ := h
    rfl
  · obtain ⟨a, bits, rfl, hl, hz, q⟩ := h
    refine ⟨_, PSs.nox ((pss_one
       (ps_ret (pe_lc (own := [("at", 1)]) rfl sc_whole_bytes.nd (pi_range3 rfl W.n_range (pa_cons pe_int (pa_cons (pe_op op_sub (pe_callB call_len_seq (by rfl) W.n_len (by decide +kernel) (pa_cons (pv 0) pa_nil)) pe_int) (pa_cons pe_int pa_nil)))) (blkOk_by (own := [("at", 1)]) (N := N_whole_bytes) (sc := defScope s_whole_bytes) (by decide +kernel)) (fun _ _ _ _ _ => (pg_name (i := 1) sc_whole_bytes.nd rfl (Or.inl rfl))) (fun _ _ _ _ _ => pts_nil) (fun _ _ _ _ _ => (pe_call (ok_bits_byte W) (hr.mono (by decide)) (by rfl) W.f_bits_byte.g W.f_bits_byte.F.kp W.f_bits_byte.b .nil pass0 (pa_cons (pe_slice (sl_listK (K := K) rfl) (pv 0) (po_some (pv 1)) (po_some (pe_op op_add (pv 1) pe_int))) pa_nil))))))), ?_⟩
    refine ⟨_, rfl, _, _, rfl, .inl hl, _, _, rfl, rfl, _, _, _, bits.length / 8, rfl, ?_, fun D hD => lc_rngC OInt yes (fun k => bitsByte ((bits.drop (8 * k)).take 8)) mono_OInt ?_ hD (fun i H1 hi s hn k n hk _ => ?_) fun H1 N ys s1 s2 nD hy r => ?_⟩
    · show RgC 0 ((((bits.map V.int).length : Nat) : Int) - 7) 8 (bits.length / 8)
      rw [List.length_map]
      exact RgC8 (by omega)
    · show _ ≤ 16777216
      omega
    · refine ⟨rfl, _, rfl, _, rfl, _, rfl, _, rfl, _, _, rfl, rfl, _, rfl, _, _, rfl, s.seq hl, fun p np => ?_⟩
      have e : cutV (bits.map V.int) (some (0 + (i : Int) * 8)) (some (0 + (i : Int) * 8 + 8)) = ((bits.drop (8 * i)).take 8).map V.int := by
        have e1 : (0 + (i : Int) * 8) = ((8 * i : Nat) : Int) := by omega
        have e2 : (0 + (i : Int) * 8 + 8) = ((8 * i + 8 : Nat) : Int) := by omega
        rw [e2, e1, cutV_nat (by omega), List.map_take, List.map_drop, Nat.add_sub_cancel_left]
      refine ⟨_, (bits.drop (8 * i)).take 8, rfl, SqL.of (by rw [← e]; exact upd_same), hk rfl _ _ (Same.new np) rfl⟩
    · have e := out_int r
      rw [filter_yes] at e
      rw [e] at hy
      exact q _ _ (s1.trans s2) hD hy
def sp_clock_for (K : PySem.W.Frag) : Sp := fun vs H Q _ => ∃ b d, vs = [.int b, .int d] ∧ Q (.int (clockFor b d)) H
abbrev N_clock_for : List Str := ["before", "bit"]
theorem sc_clock_for : FnScope N_clock_for ["before", "bit"] (defScope s_clock_for) := ⟨rfl, rfl, rfl, by decide +kernel, rfl, by decide +kernel, by decide +kernel⟩
theorem ok_clock_for (W : T K mg) : Ok P w K mg base (1) "clock_for" ["before", "bit"] (sp_clock_for K) := by
  refine W.f_clock_for.F.ok sc_clock_for (fun vs H Q E h => ?_) (fun cdv A outer s H vs Q E hr h => ?_)
  · obtain ⟨b, d, rfl, _⟩ := h
    rfl
  · obtain ⟨b, d, rfl, q⟩ := h
    refine ⟨_, PSs.nox ((pss_one
       (ps_ret (pe_callTy call_int1 (by rfl) W.n_int (by decide +kernel) (pa_cons (pe_and (pe_cmpR op_eq (pv 0) pe_int (nomark _)) (pe_one (pe_cmpR op_eq (pv 1) pe_int (nomark _)))) pa_nil))))), ?_⟩
    refine ⟨_, rfl, rfl, _, rfl, ite2 (fun hb => ⟨_, rfl, rfl, .inr ⟨_, rfl, ?_⟩⟩) fun hb => .inr ⟨_, rfl, ?_⟩⟩
    · have e : (if decide (V.int d = V.int 0) = true then (1 : Int) else 0) = clockFor b d := by
        have hb0 : b = 0 := by simpa using hb
        subst hb0
        unfold clockFor
        by_cases h0 : d = 0 <;> simp [h0]
      rw [e]
      exact q
    · have e : (if false = true then (1 : Int) else 0) = clockFor b d := by
        have hb0 : ¬ b = 0 := by simpa using hb
        unfold clockFor
        simp [hb0]
      rw [e]
      exact q
def sp_mfm_cells (K : PySem.W.Frag) : Sp := fun vs H Q _ => ∃ a ns b, vs = [.ref a, .int b] ∧ SqL K H a (ns.map V.int) ∧ ns.length ≤ 10000 ∧ NewI H Q (mfm b ns)
abbrev N_mfm_cells : List Str := ["values", "before", "cells", "bit"]
theorem sc_mfm_cells : FnScope N_mfm_cells ["values", "before"] (defScope s_mfm_cells) := ⟨rfl, rfl, rfl, by decide +kernel, rfl, by decide +kernel, by decide +kernel⟩
theorem ok_mfm_cells (W : T K mg) : Ok P w K mg base (3) "mfm_cells" ["values", "before"] (sp_mfm_cells K) := by
  refine W.f_mfm_cells.F.ok sc_mfm_cells (fun vs H Q E h => ?_) (fun cdv A outer s H vs Q E hr h => ?_)
  · obtain ⟨a, ns, b, rfl, _⟩ := h
    rfl
  · obtain ⟨a, ns, b, rfl, hl, hz, q⟩ := h
    refine ⟨_, PSs.nox ((pss_cons
       (ps_set (i := 2) sc_mfm_cells.nd rfl (Or.inl rfl) (pe_lst pa_nil))
       (pss_cons
       (ps_for PassesOwn.never rfl (pi_list (pe_call (ok_all_bits W) (hr.mono (by decide)) (by rfl) W.f_all_bits.g W.f_all_bits.F.kp W.f_all_bits.b .nil pass0 (pa_cons (pv 0) pa_nil))) (pg_name (i := 3) sc_mfm_cells.nd rfl (Or.inl rfl)) (pss_cons
       (ps_expr (pe_bm PySem.F.plainAttrs_list PySem.F.slot_list_extend PySem.F.type_list_extend mt_extend (pv 2) (pa_cons (pe_lst (pa_cons (pe_call (ok_clock_for W) (hr.mono (by decide)) (by rfl) W.f_clock_for.g W.f_clock_for.F.kp W.f_clock_for.b .nil pass0 (pa_cons (pv 1) (pa_cons (pv 3) pa_nil))) (pa_cons (pv 3) pa_nil))) pa_nil)))
       (pss_one
       (ps_set (i := 1) sc_mfm_cells.nd rfl (Or.inl rfl) (pv 3)))))
       (pss_one
       (ps_ret (pv 2)))))), ?_⟩
    refine ⟨Nat.zero_le _, fun o no => ?_⟩
    refine ⟨_, rfl, _, _, rfl, (Same.new no).seq hl, by omega, fun H1 p s1 np hp => ?_⟩
    have ho1 : H1 o = some (.lst []) := s1 _ _ upd_same
    have s1' : Same H H1 := (Same.new no).trans s1
    have hL : (allBits ns).length ≤ 80000 := by rw [allBits_len]; omega
    refine ⟨_, rfl, ⟨_, SqL.of hp⟩, ?_⟩
    refine for_list (xs := (allBits ns).map V.int) (fun i σ H' => Same H H' ∧ H' p = some (.lst ((allBits ns).map V.int)) ∧ H' o = some (.lst ((mfmGo b ((allBits ns).take i)).map V.int)) ∧ ∃ y, σ = [some (.ref a), some (.int (((allBits ns).take i).getLastD b)), some (.ref o), y])
      ⟨s1', hp, ho1, _, rfl⟩ (fun i σ H' _ p => SqL.of p.2.1) (fun i x σ H' hx p => ?_) fun σ H' p => ?_
    · obtain ⟨s, hp', ho, y, rfl⟩ := p
      obtain ⟨d, hd, rfl⟩ := map_at hx
      refine ⟨_, rfl, .inl ⟨rfl, _, SqL.of ho⟩, _, rfl, _, rfl, _, _, rfl, _, rfl, (by show 2 ≤ sizeLine; decide), fun e ne => ?_⟩
      have ho2 := (Same.new (o := .lst [.int (clockFor (((allBits ns).take i).getLastD b) d), .int d]) ne) _ _ ho
      have hp2 := (Same.new (o := .lst [.int (clockFor (((allBits ns).take i).getLastD b) d), .int d]) ne) _ _ hp'
      have hne : p ≠ o := by
        intro z
        rw [z] at np
        rw [upd_same] at np
        cases np
      refine ⟨_, _, _, _, rfl, rfl, ho2, upd_same, ?_, ?_⟩
      · rw [List.length_map, mfmGo_len, List.length_take]
        show _ ≤ 16777216
        show 2 * (min i (allBits ns).length) + 2 ≤ 16777216
        omega
      · refine ⟨_, rfl, Same.mut (s.trans (Same.new ne)) no, ?_, ?_, some (.int d), ?_⟩
        · rw [upd_ne hne]
          exact hp2
        · rw [upd_same, take_more hd, mfmGo_app, List.map_append]
          rfl
        · rw [take_more hd, getLastD_snoc]
          rfl
    · obtain ⟨s, hp', ho, y, rfl⟩ := p
      refine ⟨_, rfl, ?_⟩
      rw [List.length_map, List.take_length] at ho
      exact q _ _ s no ho
def sp_read_mfm (K : PySem.W.Frag) : Sp := fun vs H Q _ => ∃ a cells b, vs = [.ref a, .int b] ∧ SqL K H a (cells.map V.int) ∧ cells.length ≤ 100000 ∧
  ∀ H' p v f, Same H H' → H p = none → H' p = some (.tup [.ref v, .ref f]) → H' v = some (.lst ((wholeBytes (odds cells)).map V.int)) → H' f = some (.lst ((faultsOf b cells).map V.int)) → Q (.ref p) H'
abbrev N_read_mfm : List Str := ["cells", "before", "bits", "values", "faults", "at"]
theorem sc_read_mfm : FnScope N_read_mfm ["cells", "before"] (defScope s_read_mfm) := ⟨rfl, rfl, rfl, by decide +kernel, rfl, by decide +kernel, by decide +kernel⟩
theorem ok_read_mfm (W : T K mg) : Ok P w K mg base (3) "read_mfm" ["cells", "before"] (sp_read_mfm K) := by
  refine W.f_read_mfm.F.ok sc_read_mfm (fun vs H Q E h => ?_) (fun cdv A outer s H vs Q E hr h => ?_)
  · obtain ⟨a, cells, b, rfl, _⟩ := h
    rfl
  · obtain ⟨a, cells, b, rfl, hl, hz, q⟩ := h
    refine ⟨_, PSs.nox ((pss_cons
       (ps_set (i := 2) sc_read_mfm.nd rfl (Or.inl rfl) (pe_odds (pv 0)))
       (pss_cons
       (ps_set (i := 3) sc_read_mfm.nd rfl (Or.inl rfl) (pe_call (ok_whole_bytes W) (hr.mono (by decide)) (by rfl) W.f_whole_bytes.g W.f_whole_bytes.F.kp W.f_whole_bytes.b .nil pass0 (pa_cons (pv 2) pa_nil)))
       (pss_cons
       (ps_set (i := 4) sc_read_mfm.nd rfl (Or.inl rfl) (pe_lst pa_nil))
       (pss_cons
       (ps_for PassesOwn.never rfl (pi_range1 rfl W.n_range (pa_cons (pe_op op_mul pe_int (pe_callB call_len_seq (by rfl) W.n_len (by decide +kernel) (pa_cons (pv 3) pa_nil))) pa_nil)) (pg_name (i := 5) sc_read_mfm.nd rfl (Or.inl rfl)) (pss_cons
       (ps_if (pt_cmpR op_ne (pe_ix ix_list (pv 0) (pe_op op_mul pe_int (pv 5)) (fun _ _ => rfl)) (pe_call (ok_clock_for W) (hr.mono (by decide)) (by rfl) W.f_clock_for.g W.f_clock_for.F.kp W.f_clock_for.b .nil pass0 (pa_cons (pv 1) (pa_cons (pe_ix ix_list (pv 2) (pv 5) (fun _ _ => rfl)) pa_nil))) (nomark _)) (pss_one
       (ps_expr (pe_bm PySem.F.plainAttrs_list PySem.F.slot_list_append PySem.F.type_list_append mt_append (pv 4) (pa_cons (pv 5) pa_nil)))) pss_nil)
       (pss_one
       (ps_set (i := 1) sc_read_mfm.nd rfl (Or.inl rfl) (pe_ix ix_list (pv 2) (pv 5) (fun _ _ => rfl))))))
       (pss_one
       (ps_ret (pe_tup (pa_cons (pv 3) (pa_cons (pv 4) pa_nil)))))))))), ?_⟩
    have hol := odds_len cells
    generalize hbits : odds cells = bits at q hol
    refine ⟨_, rfl, _, _, rfl, hl, fun o no => ?_⟩
    have ho : upd H o (.lst (odds (cells.map V.int))) o = some (.lst (bits.map V.int)) := by rw [upd_same, odds_map, hbits]
    refine ⟨_, rfl, _, _, rfl, SqL.of ho, by omega, fun H1 v s1 nv hv => ?_⟩
    have s1' : Same H H1 := (Same.new no).trans s1
    refine ⟨Nat.zero_le _, fun f nf => ?_⟩
    have s2 : Same H1 (upd H1 f (.lst [])) := Same.new nf
    refine ⟨_, rfl, _, _, rfl, .inl (SqL.of (s2 _ _ hv)), _, _, rfl, rfl, .inl ⟨by decide, by decide⟩, _, rfl, ?_, ?_, ?_⟩
    · show (-(2 ^ 62) : Int) ≤ 8 * (((wholeBytes bits).map V.int).length : Nat)
      omega
    · show (8 : Int) * (((wholeBytes bits).map V.int).length : Nat) < 2 ^ 62
      rw [List.length_map, wholeBytes_len]
      omega
    have en : ((8 : Int) * (((wholeBytes bits).map V.int).length : Nat)).toNat = 8 * (bits.length / 8) := by
      rw [List.length_map, wholeBytes_len]
      omega
    show ∃ W, _
    refine for_range (n := _) (fun i σ H' => Same H H' ∧ H' o = some (.lst (bits.map V.int)) ∧ H' v = some (.lst ((wholeBytes bits).map V.int)) ∧
      H' f = some (.lst ((((List.range i).filter fun i => decide (cells.getD (2 * i) 0 ≠ clockFor (prevBit b bits i) (bits.getD i 0))).map fun (i : Nat) => (i : Int)).map V.int)) ∧
      ∃ y, σ = [some (.ref a), some (.int (prevBit b bits i)), some (.ref o), some (.ref v), some (.ref f), y]) ⟨s1'.trans s2, s2 _ _ (s1 _ _ ho), s2 _ _ hv, upd_same, _, rfl⟩ (fun i σ H' hi p => ?_) fun σ H' p => ?_
    · obtain ⟨s, ho', hv', hf, y, rfl⟩ := p
      rw [en] at hi
      have hib : i < bits.length := by omega
      have hic : 2 * i < cells.length := by omega
      have e0 : (0 + (i : Int)) = (i : Int) := by omega
      have nof : o ≠ f := ne_of_none (s1 _ _ ho) nf
      have nvf : v ≠ f := ne_of_none hv nf
      rw [e0]
      refine ⟨_, rfl, _, rfl, _, _, rfl, rfl, .inl ⟨by decide, by decide⟩, _, _, _, .int (cells.getD (2 * i) 0), rfl, rfl, s.seq hl, ?_, ?_⟩
      · have e1 : (2 : Int) * (i : Int) = ((2 * i : Nat) : Int) := by omega
        show atI _ ((2 : Int) * (i : Int)) = _
        rw [e1]
        exact atI_nat (at_getD hic)
      · refine ⟨_, rfl, _, rfl, _, rfl, _, _, _, .int (bits.getD i 0), rfl, rfl, SqL.of ho', atI_nat (at_getD hib), _, _, rfl, rfl, _, rfl, ?_⟩
        have eg : prevBit b bits (i + 1) = bits.getD i 0 := rfl
        by_cases hc : cells.getD (2 * i) 0 = clockFor (prevBit b bits i) (bits.getD i 0)
        · refine iteNS (by rw [hc]) ⟨_, rfl, _, rfl, _, _, _, .int (bits.getD i 0), rfl, rfl, SqL.of ho', atI_nat (at_getD hib), s, ho', hv', ?_, some (.int i), ?_⟩
          · rw [List.range_succ, List.filter_append]
            have : [i].filter (fun i => decide (cells.getD (2 * i) 0 ≠ clockFor (prevBit b bits i) (bits.getD i 0))) = [] := by
              rw [List.filter_cons_of_neg (by rw [decide_eq_true_eq]; exact fun z => z hc)]
              rfl
            rw [this, List.append_nil]
            exact hf
          · rw [eg]; rfl
        · refine ite2 (fun _ => ?_) (fun h => absurd hc (by simpa using h))
          refine ⟨_, rfl, .inl ⟨rfl, _, SqL.of hf⟩, _, rfl, _, _, _, rfl, rfl, hf, ?_, ?_⟩
          · rw [List.length_map, List.length_map]
            have h1 := List.length_filter_le (fun i => decide (cells.getD (2 * i) 0 ≠ clockFor (prevBit b bits i) (bits.getD i 0))) (List.range i)
            rw [List.length_range] at h1
            show _ < 16777216
            omega
          · have ho2 : (upd H' f (.lst (((((List.range i).filter fun i => decide (cells.getD (2 * i) 0 ≠ clockFor (prevBit b bits i) (bits.getD i 0))).map fun (i : Nat) => (i : Int)).map V.int) ++ [.int i]))) o = some (.lst (bits.map V.int)) := by
              rw [upd_ne nof]; exact ho'
            refine ⟨_, rfl, _, rfl, _, _, _, .int (bits.getD i 0), rfl, rfl, SqL.of ho2, atI_nat (at_getD hib), Same.mut s (s1'.free nf), ho2, by rw [upd_ne nvf]; exact hv', ?_, some (.int i), ?_⟩
            · rw [upd_same, List.range_succ, List.filter_append]
              have : [i].filter (fun i => decide (cells.getD (2 * i) 0 ≠ clockFor (prevBit b bits i) (bits.getD i 0))) = [i] := by
                rw [List.filter_cons_of_pos (by rw [decide_eq_true_eq]; exact hc)]
                rfl
              rw [this, List.map_append, List.map_append]
              rfl
            · rw [eg]; rfl
    · obtain ⟨s, ho', hv', hf, y, rfl⟩ := p
      rw [en] at hf
      refine ⟨_, rfl, _, rfl, (by show 2 ≤ sizeLine; decide), fun p np => ?_⟩
      refine q _ _ v f (s.trans (Same.new np)) (s.free np) upd_same (Same.new np _ _ hv') (Same.new np _ _ ?_)
      unfold faultsOf
      rw [hbits]
      exact hf
end
end KW
end

section
set_option Elab.async false
set_option linter.all false
set_option maxRecDepth 100000
set_option maxHeartbeats 4000000
/-! More tools: what is new, data of ints, comprehensions of values, objects of the program. -/
namespace KW
open PySem PySem.Spec PyProof.Rows L2 KR
theorem ifT {c A B : Prop} [Decidable c] (h : c) (x : A) : if c then A else B := by
  rw [if_pos h]
  exact x
theorem ifF {c A B : Prop} [Decidable c] (h : ¬ c) (x : B) : if c then A else B := by
  rw [if_neg h]
  exact x
/-! ### the new part of a heap -/
def fresh (H H' : Hp) : Hp := fun b => match H b with
  | some _ => none
  | none => H' b
section
variable {H H' H1 H2 : Hp} {p a b x : Addr} {o u : HO}
theorem fresh_at (h : H p = none) (h' : H' p = some o) : fresh H H' p = some o := by
  unfold fresh
  rw [h]
  exact h'
theorem fresh_sub : Same (fresh H H') H' := fun b o e => by
  unfold fresh at e
  cases q : H b with
  | some _ => rw [q] at e; cases e
  | none => rw [q] at e; exact e
theorem fresh_none (h : fresh H H' b ≠ none) : H b = none := by
  cases q : H b with
  | none => rfl
  | some _ =>
    refine absurd ?_ h
    unfold fresh
    rw [q]
theorem fresh_anti (s : Same H H1) : Same (fresh H1 H') (fresh H H') := fun b o e => by
  have h1 : H1 b = none := fresh_none (by rw [e]; intro z; cases z)
  exact fresh_at (s.free h1) (fresh_sub _ _ e)
theorem fresh_mono (s : Same H1 H2) : Same (fresh H H1) (fresh H H2) := fun b o e => by
  have h1 : H b = none := fresh_none (by rw [e]; intro z; cases z)
  exact fresh_at h1 (s _ _ (fresh_sub _ _ e))
theorem fresh_del (h : H x ≠ none) : Same (fresh H H') (del H' x) := fun b o e => by
  have h1 : H b = none := fresh_none (by rw [e]; intro z; cases z)
  have hb : b ≠ x := fun z => h (by rw [← z]; exact h1)
  rw [del_ne hb]
  exact fresh_sub _ _ e
end
/-- a new thing that stands for e by new objects alone -/
def NewO {ε : Type} (O : ε → V → Hp → Prop) (H : Hp) (Q : VK) (e : ε) : Prop := ∀ H' y, Same H H' → O e y (fresh H H') → Q y H'
/-- all as before but at x -/
def But (x : Addr) (H H' : Hp) : Prop := ∀ b o, b ≠ x → H b = some o → H' b = some o
section
variable {H H' H1 H2 : Hp} {p a b x dx : Addr} {o u : HO}
theorem But.refl : But x H H := fun _ _ _ e => e
theorem But.of (s : Same H H') : But x H H' := fun b o _ e => s b o e
theorem But.trans (s : But x H H1) (t : But x H1 H2) : But x H H2 := fun b o n e => t b o n (s b o n e)
theorem But.upd (s : But x H H1) : But x H (upd H1 x o) := fun b u n e => by rw [upd_ne n]; exact s b u n e
theorem But.made (s : But x (L2.upd (L2.upd H dx (.own x)) x o) H') (nx : H x = none) (nd : H dx = none) : Same H H' := fun b u e => by
  have h1 : b ≠ x := ne_of_none e nx
  exact s b u h1 (by rw [upd_ne h1, upd_ne (ne_of_none e nd)]; exact e)
theorem But.same (s : But x H H') (nx : H x = none) : Same H H' := fun b u e => s b u (ne_of_none e nx) e
end
/-! ### data of ints -/
section
variable {K : PySem.W.Frag} {H : Hp} {a : Addr}
theorem dpAll_ints : ∀ ns : List Int, DpAll K H (ns.map V.int) (ns.map PyData.int)
  | [] => .nil
  | n :: ns => .cons (.int n) (dpAll_ints ns)
theorem dp_tup {ns : List Int} (h : SqT K H a (ns.map V.int)) : Dp K H (.ref a) (.tuple (ns.map PyData.int)) := .tup h (dpAll_ints ns)
theorem dp_lst {ns : List Int} (h : SqL K H a (ns.map V.int)) : Dp K H (.ref a) (.list (ns.map PyData.int)) := .lst h (dpAll_ints ns)
theorem eqv_ints : ∀ ns ms : List Int, PyData.eqvAll (ns.map PyData.int) (ms.map PyData.int) = decide (ns = ms)
  | [], [] => rfl
  | [], m :: ms => rfl
  | n :: ns, [] => rfl
  | n :: ns, m :: ms => by
    show (PyData.eqv (.int n) (.int m) && PyData.eqvAll (ns.map PyData.int) (ms.map PyData.int)) = _
    rw [eqv_ints ns ms]
    show ((n == m) && decide (ns = ms)) = _
    by_cases h1 : n = m <;> by_cases h2 : ns = ms <;> simp [h1, h2]
theorem eqv_tup (ns ms : List Int) : PyData.eqv (.tuple (ns.map PyData.int)) (.tuple (ms.map PyData.int)) = decide (ns = ms) := eqv_ints ns ms
theorem eqv_lst (ns ms : List Int) : PyData.eqv (.list (ns.map PyData.int)) (.list (ms.map PyData.int)) = decide (ns = ms) := eqv_ints ns ms
theorem canLay_ints : ∀ ns : List Int, PyData.canLayAll0 (ns.map PyData.int) = true
  | [] => rfl
  | _ :: ns => canLay_ints ns
theorem depth_ints : ∀ ns : List Int, PyData.depthAll (ns.map PyData.int) = 0
  | [] => rfl
  | _ :: ns => by
    show max 0 (PyData.depthAll (ns.map PyData.int)) = 0
    rw [depth_ints ns]
    rfl
theorem shaped_tup (ns : List Int) : SeqAt.shaped (.tuple (ns.map PyData.int)) = true := by
  unfold SeqAt.shaped
  rw [show PyData.canLay0 (.tuple (ns.map PyData.int)) = true from canLay_ints ns, show PyData.depth (.tuple (ns.map PyData.int)) = 1 by show PyData.depthAll _ + 1 = 1; rw [depth_ints]]
  rfl
theorem shaped_lst (ns : List Int) : SeqAt.shaped (.list (ns.map PyData.int)) = true := by
  unfold SeqAt.shaped
  rw [show PyData.canLay0 (.list (ns.map PyData.int)) = true from canLay_ints ns, show PyData.depth (.list (ns.map PyData.int)) = 1 by show PyData.depthAll _ + 1 = 1; rw [depth_ints]]
  rfl
theorem rEqD_tup {b : Addr} {ns ms : List Int} {Q : VK} (h : SqT K H a (ns.map V.int)) (h' : SqT K H b (ms.map V.int)) (q : Q (.bl (decide (ns = ms))) H) : rEqD K (.ref a) (.ref b) H Q :=
  ⟨_, _, dp_tup h, dp_tup h', shaped_tup _, shaped_tup _, by rw [eqv_tup]; exact q⟩
theorem rNeD_tup {b : Addr} {ns ms : List Int} {Q : VK} (h : SqT K H a (ns.map V.int)) (h' : SqT K H b (ms.map V.int)) (q : Q (.bl (!decide (ns = ms))) H) : rNeD K (.ref a) (.ref b) H Q :=
  ⟨_, _, dp_tup h, dp_tup h', shaped_tup _, shaped_tup _, by rw [eqv_tup]; exact q⟩
theorem rEqD_lst {b : Addr} {ns ms : List Int} {Q : VK} (h : SqL K H a (ns.map V.int)) (h' : SqL K H b (ms.map V.int)) (q : Q (.bl (decide (ns = ms))) H) : rEqD K (.ref a) (.ref b) H Q :=
  ⟨_, _, dp_lst h, dp_lst h', shaped_lst _, shaped_lst _, by rw [eqv_lst]; exact q⟩
theorem rNeD_lst {b : Addr} {ns ms : List Int} {Q : VK} (h : SqL K H a (ns.map V.int)) (h' : SqL K H b (ms.map V.int)) (q : Q (.bl (!decide (ns = ms))) H) : rNeD K (.ref a) (.ref b) H Q :=
  ⟨_, _, dp_lst h, dp_lst h', shaped_lst _, shaped_lst _, by rw [eqv_lst]; exact q⟩
end
/-! ### comprehensions of values -/
def OV : V → V → Hp → Prop := fun v y _ => y = v
theorem mono_OV : Mono OV := fun _ _ _ _ _ h => h
theorem out_V {N : Hp} : ∀ {vs ys : List V}, Paired (fun e y => OV e y N) vs ys → ys = vs
  | _, _, .nil => rfl
  | _, _, .cons r t => by
    have ih := out_V t
    have r' : _ = _ := r
    rw [r', ih]
theorem in_V {H : Hp} {δ : Type} (I : δ → V) : ∀ ds : List δ, Paired (fun d x => x = I d) ds (ds.map I)
  | [] => .nil
  | _ :: ds => .cons rfl (in_V (H := H) I ds)
section
variable {K : PySem.W.Frag} {a : Addr} {xs : List V} {g : TG} {tt : TT} {te : TE} {vs : List Nat} {σ : L2.St} {H1 : Hp} {D : Addr} {Qd : Hp → Prop}
/-- items that are values, values out; a test -/
theorem lcL_sel {δ : Type} (ds : List δ) (I G : δ → V) (sel : δ → Bool) (hx : SqL K H1 a (ds.map I)) (hz : ds.length ≤ sizeLine) (hD : H1 D = none)
    (hs : ∀ d H (k : V → Hp → Prop) (n : Hp → Prop), d ∈ ds → Same H1 H → (sel d = true → ∀ H', Same H H' → k (G d) H') → (sel d = false → ∀ H', Same H H' → n H') →
      g (I d) (wipe σ vs) H fun σ2 H2 => wipe σ2 vs = wipe σ vs ∧ tt σ2 H2 fun b H3 => if b = true then te σ2 H3 k else n H3)
    (hd : ∀ H, Same H1 H → H D = some (.lst ((ds.filter sel).map G)) → Qd H) :
    ∃ W : Nat → Nat → Hp → Prop, (∃ m, W 0 m (upd H1 D (.lst []))) ∧ ∀ i m H, W i m H →
      ((Itl K a).stop i H ∧ Qd H) ∨ ((Itl K a).go i H ∧ ∃ Nx : Hp → Prop, (∀ H', Nx H' → ∃ m', m' < m ∧ W (i + 1) m' H') ∧ ∀ x H', (Itl K a).yld i H x H' → g x (wipe σ vs) H' fun σ2 H2 => wipe σ2 vs = wipe σ vs ∧ tt σ2 H2 fun b H3 =>
        if b = true then te σ2 H3 fun y H4 => ∃ acc, H4 D = some (.lst acc) ∧ acc.length < sizeLine ∧ Nx (upd H4 D (.lst (acc ++ [y]))) else Nx H3) := by
  refine lc_all ds (fun d x _ => x = I d) OV sel G (fun _ _ _ _ _ h => h) mono_OV (in_V (H := H1) I ds) hx (by rw [List.length_map]; exact hz) hD (fun d x H hm s hI hn k n hk hn' => ?_) fun H N ys s1 s2 nD hy r => ?_
  · subst hI
    exact hs d H k n hm s (fun e H' sH => hk e _ _ sH rfl) hn'
  · rw [out_V r] at hy
    exact hd H (s1.trans s2) hy
theorem lcT_sel {δ : Type} (ds : List δ) (I G : δ → V) (sel : δ → Bool) (hx : SqT K H1 a (ds.map I)) (hz : ds.length ≤ sizeLine) (hD : H1 D = none)
    (hs : ∀ d H (k : V → Hp → Prop) (n : Hp → Prop), d ∈ ds → Same H1 H → (sel d = true → ∀ H', Same H H' → k (G d) H') → (sel d = false → ∀ H', Same H H' → n H') →
      g (I d) (wipe σ vs) H fun σ2 H2 => wipe σ2 vs = wipe σ vs ∧ tt σ2 H2 fun b H3 => if b = true then te σ2 H3 k else n H3)
    (hd : ∀ H, Same H1 H → H D = some (.lst ((ds.filter sel).map G)) → Qd H) :
    ∃ W : Nat → Nat → Hp → Prop, (∃ m, W 0 m (upd H1 D (.lst []))) ∧ ∀ i m H, W i m H →
      ((Itt K a).stop i H ∧ Qd H) ∨ ((Itt K a).go i H ∧ ∃ Nx : Hp → Prop, (∀ H', Nx H' → ∃ m', m' < m ∧ W (i + 1) m' H') ∧ ∀ x H', (Itt K a).yld i H x H' → g x (wipe σ vs) H' fun σ2 H2 => wipe σ2 vs = wipe σ vs ∧ tt σ2 H2 fun b H3 =>
        if b = true then te σ2 H3 fun y H4 => ∃ acc, H4 D = some (.lst acc) ∧ acc.length < sizeLine ∧ Nx (upd H4 D (.lst (acc ++ [y]))) else Nx H3) := by
  refine lc_allT ds (fun d x _ => x = I d) OV sel G (fun _ _ _ _ _ h => h) mono_OV (in_V (H := H1) I ds) hx (by rw [List.length_map]; exact hz) hD (fun d x H hm s hI hn k n hk hn' => ?_) fun H N ys s1 s2 nD hy r => ?_
  · subst hI
    exact hs d H k n hm s (fun e H' sH => hk e _ _ sH rfl) hn'
  · rw [out_V r] at hy
    exact hd H (s1.trans s2) hy
theorem lcL_map {δ : Type} (ds : List δ) (I G : δ → V) (hx : SqL K H1 a (ds.map I)) (hz : ds.length ≤ sizeLine) (hD : H1 D = none)
    (hs : ∀ d H (k : V → Hp → Prop), d ∈ ds → Same H1 H → (∀ H', Same H H' → k (G d) H') → g (I d) (wipe σ vs) H fun σ2 H2 => wipe σ2 vs = wipe σ vs ∧ te σ2 H2 k)
    (hd : ∀ H, Same H1 H → H D = some (.lst (ds.map G)) → Qd H) :
    ∃ W : Nat → Nat → Hp → Prop, (∃ m, W 0 m (upd H1 D (.lst []))) ∧ ∀ i m H, W i m H →
      ((Itl K a).stop i H ∧ Qd H) ∨ ((Itl K a).go i H ∧ ∃ Nx : Hp → Prop, (∀ H', Nx H' → ∃ m', m' < m ∧ W (i + 1) m' H') ∧ ∀ x H', (Itl K a).yld i H x H' → g x (wipe σ vs) H' fun σ2 H2 => wipe σ2 vs = wipe σ vs ∧ tYes σ2 H2 fun b H3 =>
        if b = true then te σ2 H3 fun y H4 => ∃ acc, H4 D = some (.lst acc) ∧ acc.length < sizeLine ∧ Nx (upd H4 D (.lst (acc ++ [y]))) else Nx H3) :=
  lcL_sel ds I G yes hx hz hD (fun d H k n hm s hk _ => hs d H k hm s (hk rfl)) fun H s hy => hd H s (by rw [filter_yes] at hy; exact hy)
theorem lcT_map {δ : Type} (ds : List δ) (I G : δ → V) (hx : SqT K H1 a (ds.map I)) (hz : ds.length ≤ sizeLine) (hD : H1 D = none)
    (hs : ∀ d H (k : V → Hp → Prop), d ∈ ds → Same H1 H → (∀ H', Same H H' → k (G d) H') → g (I d) (wipe σ vs) H fun σ2 H2 => wipe σ2 vs = wipe σ vs ∧ te σ2 H2 k)
    (hd : ∀ H, Same H1 H → H D = some (.lst (ds.map G)) → Qd H) :
    ∃ W : Nat → Nat → Hp → Prop, (∃ m, W 0 m (upd H1 D (.lst []))) ∧ ∀ i m H, W i m H →
      ((Itt K a).stop i H ∧ Qd H) ∨ ((Itt K a).go i H ∧ ∃ Nx : Hp → Prop, (∀ H', Nx H' → ∃ m', m' < m ∧ W (i + 1) m' H') ∧ ∀ x H', (Itt K a).yld i H x H' → g x (wipe σ vs) H' fun σ2 H2 => wipe σ2 vs = wipe σ vs ∧ tYes σ2 H2 fun b H3 =>
        if b = true then te σ2 H3 fun y H4 => ∃ acc, H4 D = some (.lst acc) ∧ acc.length < sizeLine ∧ Nx (upd H4 D (.lst (acc ++ [y]))) else Nx H3) :=
  lcT_sel ds I G yes hx hz hD (fun d H k n hm s hk _ => hs d H k hm s (hk rfl)) fun H s hy => hd H s (by rw [filter_yes] at hy; exact hy)
/-- rows in, values out -/
theorem lcR_map {ε : Type} (O : ε → V → Hp → Prop) (mO : Mono O) (es : List ε) (G : ε → V) (hx : SqL K H1 a xs) (hp : Paired (fun e y => O e y H1) es xs) (hz : es.length ≤ sizeLine) (hD : H1 D = none)
    (hs : ∀ e x H (k : V → Hp → Prop), e ∈ es → Same H1 H → O e x H → (∀ H', Same H H' → k (G e) H') → g x (wipe σ vs) H fun σ2 H2 => wipe σ2 vs = wipe σ vs ∧ te σ2 H2 k)
    (hd : ∀ H, Same H1 H → H D = some (.lst (es.map G)) → Qd H) :
    ∃ W : Nat → Nat → Hp → Prop, (∃ m, W 0 m (upd H1 D (.lst []))) ∧ ∀ i m H, W i m H →
      ((Itl K a).stop i H ∧ Qd H) ∨ ((Itl K a).go i H ∧ ∃ Nx : Hp → Prop, (∀ H', Nx H' → ∃ m', m' < m ∧ W (i + 1) m' H') ∧ ∀ x H', (Itl K a).yld i H x H' → g x (wipe σ vs) H' fun σ2 H2 => wipe σ2 vs = wipe σ vs ∧ tYes σ2 H2 fun b H3 =>
        if b = true then te σ2 H3 fun y H4 => ∃ acc, H4 D = some (.lst acc) ∧ acc.length < sizeLine ∧ Nx (upd H4 D (.lst (acc ++ [y]))) else Nx H3) := by
  refine lc_all es O OV yes G mO mono_OV hp hx (by rw [← Paired.length hp]; exact hz) hD (fun d x H hm s hI hn k n hk _ => ?_) fun H N ys s1 s2 nD hy r => ?_
  · exact hs d x H k hm s hI fun H' sH => hk rfl _ _ sH rfl
  · rw [out_V r, filter_yes] at hy
    exact hd H (s1.trans s2) hy
/-- rows in, new things out -/
theorem lcR_new {δ ε : Type} (I : δ → V → Hp → Prop) (mI : Mono I) (O : ε → V → Hp → Prop) (mO : Mono O) (ds : List δ) (F : δ → ε) (hx : SqL K H1 a xs) (hp : Paired (fun e y => I e y H1) ds xs) (hz : ds.length ≤ sizeLine) (hD : H1 D = none)
    (hs : ∀ e x H (k : V → Hp → Prop), e ∈ ds → Same H1 H → I e x H → (∀ H' y, Same H H' → O (F e) y (fresh H H') → k y H') → g x (wipe σ vs) H fun σ2 H2 => wipe σ2 vs = wipe σ vs ∧ te σ2 H2 k)
    (hd : ∀ H, Same H1 H → ORow O (ds.map F) (.ref D) (fresh H1 H) → Qd H) :
    ∃ W : Nat → Nat → Hp → Prop, (∃ m, W 0 m (upd H1 D (.lst []))) ∧ ∀ i m H, W i m H →
      ((Itl K a).stop i H ∧ Qd H) ∨ ((Itl K a).go i H ∧ ∃ Nx : Hp → Prop, (∀ H', Nx H' → ∃ m', m' < m ∧ W (i + 1) m' H') ∧ ∀ x H', (Itl K a).yld i H x H' → g x (wipe σ vs) H' fun σ2 H2 => wipe σ2 vs = wipe σ vs ∧ tYes σ2 H2 fun b H3 =>
        if b = true then te σ2 H3 fun y H4 => ∃ acc, H4 D = some (.lst acc) ∧ acc.length < sizeLine ∧ Nx (upd H4 D (.lst (acc ++ [y]))) else Nx H3) := by
  have key := lc_all (K := K) (a := a) (g := g) (tt := tYes) (te := te) (vs := vs) (σ := σ) (D := D) (H1 := H1) (Qd := Qd) (xs := xs) ds I (fun e y H => O e y (fresh H1 H)) yes F mI (fun e y H H' s h => mO _ _ _ _ (fresh_mono s) h) hp hx (by rw [← Paired.length hp]; exact hz) hD
    (fun d x H hm s hI hn k n hk _ => hs d x H k hm s hI fun H' y sH ho => hk rfl _ _ sH (mO _ _ _ _ (fun b o e => by
      have h1 : H b = none := fresh_none (by rw [e]; intro z; cases z)
      have hb : b ≠ D := fun z => hn (by rw [← z]; exact h1)
      exact fresh_at (s.free h1) (by rw [del_ne hb]; exact fresh_sub _ _ e)) ho)) fun H N ys s1 s2 nD hy r => ?_
  · exact key
  · rw [filter_yes] at r
    exact hd H (s1.trans s2) ⟨D, ys, rfl, fresh_at hD hy, Paired.mapP r fun e y z => mO _ _ _ _ (fresh_mono s2) z⟩
end
end KW
end

section
set_option Elab.async false
set_option linter.all false
set_option maxRecDepth 100000
set_option maxHeartbeats 4000000
/-! flux: mirrors, promises. -/
namespace KW
open PySem PySem.Spec PyProof.Rows L2 KR
/-! ### the mathematics -/
/-- a read -/
structure RdD where
  iv : List Int
  rest : Int
  deriving DecidableEq
def RdOk (r : RdD) : Prop := r.iv.length ≤ 60000 ∧ 0 ≤ r.rest ∧ r.rest ≤ 1000000 ∧ ∀ i ∈ r.iv, 1 ≤ i ∧ i ≤ 1000000
def fluxStep (c : Int) (st : List Int × Int) (b : Int) : List Int × Int := if b = 1 then (st.1 ++ [(st.2 + 1) * c], 0) else (st.1, st.2 + 1)
def fluxSt (c : Int) (cells : List Int) : List Int × Int := cells.foldl (fluxStep c) ([], 0)
def fluxOf (cells : List Int) (c : Int) : RdD := ⟨(fluxSt c cells).1, (fluxSt c cells).2 * c⟩
def cntOf (c i : Int) : Int := if (2 * i + c) / (2 * c) > 1 then (2 * i + c) / (2 * c) else 1
def fixedIv (c : Int) (iv : List Int) : List Int := iv.flatMap fun i => List.replicate (cntOf c i - 1).toNat 0 ++ [1]
def fixedCells (r : RdD) (c : Int) : List Int := fixedIv c r.iv ++ List.replicate ((2 * r.rest + c) / (2 * c)).toNat 0
def weakPlaces (n : Nat) (lists : List (List Int)) : List Int := ((List.range n).filter fun at' => decide (1 < distinct (lists.map fun l => l.getD at' 0))).map fun (i : Nat) => (i : Int)
theorem flux_len (c : Int) : ∀ (cells : List Int) (st : List Int × Int), (cells.foldl (fluxStep c) st).1.length ≤ st.1.length + cells.length
  | [], st => Nat.le_refl _
  | b :: cells, st => by
    have h := flux_len c cells (fluxStep c st b)
    have h1 : (fluxStep c st b).1.length ≤ st.1.length + 1 := by
      unfold fluxStep
      split
      · rw [List.length_append]; exact Nat.le_refl _
      · exact Nat.le_succ _
    rw [List.foldl_cons, List.length_cons]
    omega
theorem fixedIv_snoc (c : Int) (iv : List Int) (i : Int) : fixedIv c (iv ++ [i]) = fixedIv c iv ++ (List.replicate (cntOf c i - 1).toNat 0 ++ [1]) := by
  unfold fixedIv
  rw [List.flatMap_append]
  simp
theorem cnt_pos (c i : Int) : 1 ≤ cntOf c i := by
  unfold cntOf
  split <;> omega
theorem reps {n : Nat} (x : V) : (List.replicate n [x]).flatten = List.replicate n x := by
  induction n with
  | zero => rfl
  | succ n ih => rw [List.replicate_succ, List.flatten_cons, ih]; rfl
theorem map_reps {n : Nat} (x : Int) : (List.replicate n x).map V.int = List.replicate n (V.int x) := List.map_replicate
theorem toNat_max (q : Int) (n : Nat) (h : q.toNat ≤ n) : q ≤ n := by omega
section
variable {P : Program} {w : World} {K : PySem.W.Frag} {mg : Str → Option Value} {base : Heap}
/-- a Read -/
def OReadK (K : PySem.W.Frag) : RdD → V → Hp → Prop := fun r y H => ∃ x dx t, y = .ref x ∧ H x = some (.ins (He.ga K "Read") dx [("intervals", .ref t), ("rest", .int r.rest)]) ∧ H t = some (.tup (r.iv.map V.int))
theorem mono_ORead : Mono (OReadK K) := fun _ _ _ _ s ⟨x, dx, t, e, h1, h2⟩ => ⟨x, dx, t, e, s _ _ h1, s _ _ h2⟩
def sp_demand_cell (K : PySem.W.Frag) : Sp := fun vs H Q _ => ∃ c, vs = [.int c] ∧ 10 ≤ c ∧ c ≤ 1000 ∧ Q .non H
abbrev N_demand_cell : List Str := ["cell"]
theorem sc_demand_cell : FnScope N_demand_cell ["cell"] (defScope s_demand_cell) := ⟨rfl, rfl, rfl, by decide +kernel, rfl, by decide +kernel, by decide +kernel⟩
theorem ok_demand_cell (W : T K mg) : Ok P w K mg base (1) "demand_cell" ["cell"] (sp_demand_cell K) := by
  refine W.f_demand_cell.F.ok sc_demand_cell (fun vs H Q E h => ?_) (fun cdv A outer s H vs Q E hr h => ?_)
  · obtain ⟨c, rfl, _⟩ := h
    rfl
  · obtain ⟨c, rfl, h1, h2, q⟩ := h
    refine ⟨_, PSs.nox ((pss_one
       (ps_if (pt_not (pt_chain op_le op_le (pgi W.i_SHORTEST_CELL) (pv 0) (pgi W.i_LONGEST_CELL))) (pss_one
       ps_never) pss_nil))), ?_⟩
    exact ⟨_, rfl, _, _, rfl, rfl, _, rfl, ite2 (fun _ => ⟨_, _, rfl, rfl, _, rfl, iteNS h2 q⟩) fun h => absurd (decide_eq_true h1) h⟩
def sp_Read_init (K : PySem.W.Frag) : Sp := fun vs H Q _ => ∃ x dx a r, vs = [.ref x, .ref a, .int r.rest] ∧ H x = some (.ins (He.ga K "Read") dx []) ∧ SqL K H a (r.iv.map V.int) ∧ RdOk r ∧
  ∀ H' t, But x H H' → H t = none → H' t = some (.tup (r.iv.map V.int)) → H' x = some (.ins (He.ga K "Read") dx [("intervals", .ref t), ("rest", .int r.rest)]) → Q .non H'
abbrev N_Read_init : List Str := ["self", "intervals", "rest", "interval"]
theorem sc_Read_init : FnScope N_Read_init ["self", "intervals", "rest"] (defScope s_Read_init) := ⟨rfl, rfl, rfl, by decide +kernel, rfl, by decide +kernel, by decide +kernel⟩
theorem ok_Read_init (W : T K mg) : OkM P w K mg base (1) "Read" "__init__" ["self", "intervals", "rest"] (sp_Read_init K) := by
  refine W.f_Read_init.F.ok sc_Read_init (fun vs H Q E h => ?_) (fun cdv A outer s H vs Q E hr h => ?_)
  · obtain ⟨x, dx, a, r, rfl, _⟩ := h
    rfl
  · obtain ⟨x, dx, a, r, rfl, hx, hl, ⟨hr1, hr2, hr3, hr4⟩, q⟩ := h
    refine ⟨_, PSs.nox ((pss_cons
       (ps_if (PW.pt (pw_or (pt_cmpR op_gt (pe_callB call_len_seq (by rfl) W.n_len (by decide +kernel) (pa_cons (pv 1) pa_nil)) (pgi W.i_MOST_INTERVALS) (nomark _)) (pw_or1 (pt_not (pt_chain op_le op_le pe_int (pv 2) (pgi W.i_LONGEST)))))) (pss_one
       ps_never) pss_nil)
       (pss_cons
       (ps_if (pt_not (pt_val (pe_callB (cr_all rfl) (by rfl) W.n_all (by decide +kernel) (pa_cons (pe_lc (own := [("interval", 3)]) rfl sc_Read_init.nd (pi_list (pv 1)) (blkOk_by (own := [("interval", 3)]) (N := N_Read_init) (sc := defScope s_Read_init) (by decide +kernel)) (fun _ _ _ _ _ => (pg_name (i := 3) sc_Read_init.nd rfl (Or.inl rfl))) (fun _ _ _ _ _ => pts_nil) (fun _ _ _ _ _ => (pe_chain op_le op_le pe_int (pv 3) (pgi W.i_LONGEST)))) pa_nil)))) (pss_one
       ps_never) pss_nil)
       (pss_cons
       (ps_fld (pv 0) (pe_callTy call_tuple_of (by rfl) W.n_tuple (by decide +kernel) (pa_cons (pv 1) pa_nil)) rfl)
       (pss_one
       (ps_fld (pv 0) (pv 2) rfl)))))), ?_⟩
    refine ⟨_, rfl, _, _, rfl, .inl hl, _, _, rfl, rfl, _, rfl, ite2 (fun h => ?_) fun _ => ?_⟩
    · exfalso
      have h' := of_decide_eq_true h
      rw [List.length_map] at h'
      omega
    refine ⟨_, rfl, _, _, rfl, rfl, _, rfl, ite2 (fun _ => ?_) fun h => absurd (decide_eq_true hr2) h⟩
    refine ⟨_, _, rfl, rfl, _, rfl, iteNS hr3 ?_⟩
    refine ⟨_, rfl, _, rfl, ⟨_, hl⟩, fun D nD => ?_⟩
    refine lcL_map r.iv V.int (fun _ => V.bl true) hl (by show _ ≤ 16777216; omega) nD (fun d H1 k hm s hk => ?_) fun H1 s hD => ?_
    · obtain ⟨g1, g2⟩ := hr4 d hm
      refine ⟨rfl, _, rfl, _, _, rfl, rfl, _, rfl, ite2 (fun _ => ?_) fun h => absurd (decide_eq_true g1) h⟩
      refine ⟨_, _, rfl, rfl, ?_⟩
      show k (.bl (decide (d ≤ 1000000))) H1
      rw [decide_eq_true g2]
      exact hk _ (Same.refl _)
    · refine ⟨D, List.replicate r.iv.length true, rfl, SqL.of ?_, _, rfl, ?_⟩
      · rw [hD, List.map_const', List.map_replicate]
      rw [show (List.replicate r.iv.length true).all id = true by rw [List.all_replicate]; cases r.iv.length <;> rfl]
      refine iteF ?_
      refine ⟨_, rfl, _, _, rfl, .inl ⟨s.seq hl, fun t nt => ?_⟩⟩
      have hx1 := s _ _ hx
      have hx2 := (Same.new (o := .tup (r.iv.map V.int)) nt) _ _ hx1
      have nxt : t ≠ x := (ne_of_none hx1 nt).symm
      refine ⟨_, rfl, _, _, _, _, rfl, hx2, W.c_Read.cl, W.a_Read_intervals, (by show 0 < 1000; decide), ?_⟩
      refine ⟨_, rfl, _, rfl, _, _, _, _, rfl, upd_same, W.c_Read.cl, W.a_Read_rest, (by show 1 < 1000; decide), ?_⟩
      refine q _ t ?_ (s.free nt) ?_ ?_
      · exact But.upd (But.upd (But.of (s.trans (Same.new nt))))
      · rw [upd_ne nxt, upd_ne nxt, upd_same]
      · rw [upd_same]
        rfl
def sp_Read_eq (K : PySem.W.Frag) : Sp := fun vs H Q _ => ∃ x y r r', vs = [x, y] ∧ OReadK K r x H ∧ OReadK K r' y H ∧ Q (.bl (decide (r = r'))) H
abbrev N_Read_eq : List Str := ["self", "other"]
theorem sc_Read_eq : FnScope N_Read_eq ["self", "other"] (defScope s_Read_eq) := ⟨rfl, rfl, rfl, by decide +kernel, rfl, by decide +kernel, by decide +kernel⟩
theorem ok_Read_eq (W : T K mg) : OkM P w K mg base (1) "Read" "__eq__" ["self", "other"] (sp_Read_eq K) := by
  refine W.f_Read_eq.F.ok sc_Read_eq (fun vs H Q E h => ?_) (fun cdv A outer s H vs Q E hr h => ?_)
  · obtain ⟨x, y, r, r', rfl, _⟩ := h
    rfl
  · obtain ⟨_, _, r, r', rfl, ⟨x, dx, t, rfl, hx, ht⟩, ⟨y, dy, u, rfl, hy, hu⟩, q⟩ := h
    refine ⟨_, PSs.nox ((pss_one
       (ps_ret (pe_and (pe_callB (C8.call_isC W.is_Read) (by rfl) W.n_isinstance (by decide +kernel) (pa_cons (pv 1) (pa_cons (pgc W.c_Read) pa_nil))) (pe_and (pe_cmpR (op_eqD hr.units) (pe_fld (pv 0) rfl) (pe_fld (pv 1) rfl) (nomark _)) (pe_one (pe_cmpR op_eq (pe_fld (pv 0) rfl) (pe_fld (pv 1) rfl) (nomark _)))))))), ?_⟩
    refine ⟨_, rfl, _, _, _, rfl, hy, _, rfl, iteT ?_⟩
    refine ⟨_, rfl, _, _, _, _, _, rfl, hx, W.c_Read.cl, W.a_Read_intervals, rfl, ?_⟩
    refine ⟨_, rfl, _, _, _, _, _, rfl, hy, W.c_Read.cl, W.a_Read_intervals, rfl, ?_⟩
    refine rEqD_tup (SqT.of ht) (SqT.of hu) ⟨_, rfl, ite2 (fun e => ?_) fun e => ?_⟩
    · refine ⟨_, rfl, _, _, _, _, _, rfl, hx, W.c_Read.cl, W.a_Read_rest, rfl, ?_⟩
      refine ⟨_, rfl, _, _, _, _, _, rfl, hy, W.c_Read.cl, W.a_Read_rest, rfl, rfl, ?_⟩
      have e1 : decide (V.int r.rest = V.int r'.rest) = decide (r = r') := by
        have e2 : r.iv = r'.iv := of_decide_eq_true e
        cases r
        cases r'
        simp at e2
        simp [e2]
      rw [e1]
      exact q
    · have e1 : decide (r = r') = false := decide_eq_false fun z => e (decide_eq_true (by rw [z]))
      rw [← e1]
      exact q
def sp_flux_of (K : PySem.W.Frag) : Sp := fun vs H Q _ => ∃ a cells c, vs = [.ref a, .int c] ∧ SqL K H a (cells.map V.int) ∧ 10 ≤ c ∧ c ≤ 1000 ∧ cells.length ≤ 60000 ∧ RdOk (fluxOf cells c) ∧ NewO (OReadK K) H Q (fluxOf cells c)
abbrev N_flux_of : List Str := ["cells", "cell", "intervals", "count", "bit"]
theorem sc_flux_of : FnScope N_flux_of ["cells", "cell"] (defScope s_flux_of) := ⟨rfl, rfl, rfl, by decide +kernel, rfl, by decide +kernel, by decide +kernel⟩
theorem ok_flux_of (W : T K mg) : Ok P w K mg base (3) "flux_of" ["cells", "cell"] (sp_flux_of K) := by
  refine W.f_flux_of.F.ok sc_flux_of (fun vs H Q E h => ?_) (fun cdv A outer s H vs Q E hr h => ?_)
  · obtain ⟨a, cells, c, rfl, _⟩ := h
    rfl
  · obtain ⟨a, cells, c, rfl, hl, h1, h2, hz, hok, q⟩ := h
    refine ⟨_, PSs.nox ((pss_cons
       (ps_expr (pe_call (ok_demand_cell W) (hr.mono (by decide)) (by rfl) W.f_demand_cell.g W.f_demand_cell.F.kp W.f_demand_cell.b .nil pass0 (pa_cons (pv 1) pa_nil)))
       (pss_cons
       (ps_set (i := 2) sc_flux_of.nd rfl (Or.inl rfl) (pe_lst pa_nil))
       (pss_cons
       (ps_set (i := 3) sc_flux_of.nd rfl (Or.inl rfl) pe_int)
       (pss_cons
       (ps_for PassesOwn.never rfl (pi_list (pv 0)) (pg_name (i := 4) sc_flux_of.nd rfl (Or.inl rfl)) (pss_cons
       (ps_aug (i := 3) sc_flux_of.nd rfl (Or.inl rfl) pe_int ip_add)
       (pss_one
       (ps_if (pt_cmpR op_eq (pv 4) pe_int (nomark _)) (pss_cons
       (ps_expr (pe_bm PySem.F.plainAttrs_list PySem.F.slot_list_append PySem.F.type_list_append mt_append (pv 2) (pa_cons (pe_op op_mul (pv 3) (pv 1)) pa_nil)))
       (pss_one
       (ps_set (i := 3) sc_flux_of.nd rfl (Or.inl rfl) pe_int))) pss_nil))))
       (pss_one
       (ps_ret (pe_make W.c_Read.mk' (ok_Read_init W) (hr.mono (by decide)) (by rfl) W.c_Read.g W.f_Read_init.b .nil pass0 (pa_cons (pv 2) (pa_cons (pe_op op_mul (pv 3) (pv 1)) pa_nil)))))))))), ?_⟩
    refine ⟨_, rfl, _, rfl, h1, h2, Nat.zero_le _, fun o no => ?_⟩
    refine ⟨_, rfl, _, rfl, ⟨_, (Same.new no).seq hl⟩, ?_⟩
    refine for_list (xs := cells.map V.int) (fun i σ H' => Same H H' ∧ H' o = some (.lst ((fluxSt c (cells.take i)).1.map V.int)) ∧ ∃ y, σ = [some (.ref a), some (.int c), some (.ref o), some (.int (fluxSt c (cells.take i)).2), y]) ⟨Same.new no, upd_same, _, rfl⟩ (fun i σ H' _ p => p.1.seq hl) (fun i x σ H' hx p => ?_) fun σ H' p => ?_
    · obtain ⟨s, ho, y, rfl⟩ := p
      obtain ⟨d, hd, rfl⟩ := map_at hx
      have hi : i < cells.length := (List.getElem?_eq_some_iff.mp hd).1
      have hle : (fluxSt c (cells.take i)).1.length ≤ 0 + (cells.take i).length := flux_len c (cells.take i) ([], 0)
      rw [List.length_take] at hle
      have hle' : (fluxSt c (cells.take i)).1.length ≤ i := by omega
      have e : fluxSt c (cells.take (i + 1)) = fluxStep c (fluxSt c (cells.take i)) d := foldl_take _ _ hd
      rw [e]
      generalize hst : fluxSt c (cells.take i) = st at ho hle' ⊢
      refine ⟨_, rfl, _, _, rfl, rfl, _, rfl, rfl, _, rfl, ite2 (fun hb => ?_) fun hb => ?_⟩
      · have hb' : d = 1 := by simpa using hb
        refine ⟨_, rfl, .inl ⟨rfl, _, SqL.of ho⟩, _, rfl, _, rfl, _, _, rfl, rfl, .inr ⟨by omega, by omega⟩, _, _, _, rfl, rfl, ho, ?_, ?_⟩
        · rw [List.length_map]
          show _ < 16777216
          omega
        · have e2 : fluxStep c st d = (st.1 ++ [(st.2 + 1) * c], 0) := by
            unfold fluxStep
            rw [if_pos hb']
          rw [e2]
          refine ⟨Same.mut s no, ?_, some (.int d), rfl⟩
          rw [upd_same, List.map_append]
          rfl
      · have hb' : ¬ d = 1 := by simpa using hb
        have e2 : fluxStep c st d = (st.1, st.2 + 1) := by
          unfold fluxStep
          rw [if_neg hb']
        rw [e2]
        exact ⟨s, ho, some (.int d), rfl⟩
    · obtain ⟨s, ho, y, rfl⟩ := p
      rw [List.length_map, List.take_length] at ho
      rw [List.length_map, List.take_length]
      refine ⟨_, rfl, _, rfl, _, rfl, _, _, rfl, rfl, .inr ⟨by omega, by omega⟩, fun x dx nx nd ne => ?_⟩
      have s2 : Same H (upd (upd H' dx (.own x)) x (.ins (He.ga K "Read") dx [])) := But.made (x := x) (dx := dx) (H := H) (o := .ins (He.ga K "Read") dx []) (H' := _) (fun b u n e => by
        rw [upd_ne n] at e
        rw [upd_ne n]
        by_cases hb : b = dx
        · subst hb
          rw [upd_same] at e
          rw [upd_same]
          exact e
        · rw [upd_ne hb] at e
          rw [upd_ne hb]
          exact s _ _ e) (s.free nx) (s.free nd)
      refine ⟨x, dx, o, fluxOf cells c, rfl, upd_same, SqL.of ?_, hok, fun H2 t s3 nt ht hx => ⟨rfl, ?_⟩⟩
      · rw [upd_ne (ne_of_none ho nx), upd_ne (ne_of_none ho nd)]
        exact ho
      · have s4 : Same H' H2 := But.made s3 nx nd
        refine q _ _ (s.trans s4) ⟨x, dx, t, rfl, fresh_at (s.free nx) hx, fresh_at (s2.free nt) ht⟩
def sp_fixed_cells (K : PySem.W.Frag) : Sp := fun vs H Q _ => ∃ y r c, vs = [y, .int c] ∧ OReadK K r y H ∧ 10 ≤ c ∧ c ≤ 1000 ∧ 0 ≤ r.rest ∧ (fixedCells r c).length ≤ 100000 ∧ NewI H Q (fixedCells r c)
abbrev N_fixed_cells : List Str := ["read", "cell", "cells", "interval", "count"]
theorem sc_fixed_cells : FnScope N_fixed_cells ["read", "cell"] (defScope s_fixed_cells) := ⟨rfl, rfl, rfl, by decide +kernel, rfl, by decide +kernel, by decide +kernel⟩
theorem ok_fixed_cells (W : T K mg) : Ok P w K mg base (2) "fixed_cells" ["read", "cell"] (sp_fixed_cells K) := by
  refine W.f_fixed_cells.F.ok sc_fixed_cells (fun vs H Q E h => ?_) (fun cdv A outer s H vs Q E hr h => ?_)
  · obtain ⟨y, r, c, rfl, _⟩ := h
    rfl
  · obtain ⟨_, r, c, rfl, ⟨x, dx, t, rfl, hx, ht⟩, h1, h2, h3, hz, q⟩ := h
    refine ⟨_, PSs.nox ((pss_cons
       (ps_expr (pe_call (ok_demand_cell W) (hr.mono (by decide)) (by rfl) W.f_demand_cell.g W.f_demand_cell.F.kp W.f_demand_cell.b .nil pass0 (pa_cons (pv 1) pa_nil)))
       (pss_cons
       (ps_set (i := 2) sc_fixed_cells.nd rfl (Or.inl rfl) (pe_lst pa_nil))
       (pss_cons
       (ps_for PassesOwn.never rfl (pi_tup (pe_fld (pv 0) rfl)) (pg_name (i := 3) sc_fixed_cells.nd rfl (Or.inl rfl)) (pss_cons
       (ps_set (i := 4) sc_fixed_cells.nd rfl (Or.inl rfl) (pe_callB (call_max2 rfl) (by rfl) W.n_max (by decide +kernel) (pa_cons pe_int (pa_cons (pe_op op_fdiv (pe_op op_add (pe_op op_mul pe_int (pv 3)) (pv 1)) (pe_op op_mul pe_int (pv 1))) pa_nil))))
       (pss_cons
       (ps_expr (pe_bm PySem.F.plainAttrs_list PySem.F.slot_list_extend PySem.F.type_list_extend mt_extend (pv 2) (pa_cons (pe_op op_rep (pe_lst (pa_cons pe_int pa_nil)) (pe_op op_sub (pv 4) pe_int)) pa_nil)))
       (pss_one
       (ps_expr (pe_bm PySem.F.plainAttrs_list PySem.F.slot_list_append PySem.F.type_list_append mt_append (pv 2) (pa_cons pe_int pa_nil)))))))
       (pss_one
       (ps_ret (pe_op op_cat (pv 2) (pe_op op_rep (pe_lst (pa_cons pe_int pa_nil)) (pe_op op_fdiv (pe_op op_add (pe_op op_mul pe_int (pe_fld (pv 0) rfl)) (pv 1)) (pe_op op_mul pe_int (pv 1))))))))))), ?_⟩
    have hz2 : (fixedIv c r.iv).length ≤ 100000 ∧ ((2 * r.rest + c) / (2 * c)).toNat ≤ 100000 := by
      unfold fixedCells at hz
      rw [List.length_append, List.length_replicate] at hz
      omega
    refine ⟨_, rfl, _, rfl, h1, h2, Nat.zero_le _, fun o no => ?_⟩
    have s1 : Same H (upd H o (.lst [])) := Same.new no
    refine ⟨_, rfl, _, _, _, _, _, rfl, s1 _ _ hx, W.c_Read.cl, W.a_Read_intervals, rfl, _, rfl, ⟨_, SqT.of (s1 _ _ ht)⟩, ?_⟩
    refine for_tup (xs := r.iv.map V.int) (fun i σ H' => Same H H' ∧ H' o = some (.lst ((fixedIv c (r.iv.take i)).map V.int)) ∧ ∃ y z, σ = [some (.ref x), some (.int c), some (.ref o), y, z]) ⟨s1, upd_same, _, _, rfl⟩ (fun i σ H' _ p => SqT.of (p.1 _ _ ht)) (fun i y σ H' hy p => ?_) fun σ H' p => ?_
    · obtain ⟨s, ho, y, z, rfl⟩ := p
      obtain ⟨d, hd, rfl⟩ := map_at hy
      have e : fixedIv c (r.iv.take (i + 1)) = fixedIv c (r.iv.take i) ++ (List.replicate (cntOf c d - 1).toNat 0 ++ [1]) := by
        rw [take_more hd, fixedIv_snoc]
      have hle : (fixedIv c (r.iv.take (i + 1))).length ≤ 100000 := by
        have e3 : fixedIv c r.iv = fixedIv c (r.iv.take (i + 1)) ++ fixedIv c (r.iv.drop (i + 1)) := by
          unfold fixedIv
          rw [← List.flatMap_append, List.take_append_drop]
        rw [e3, List.length_append] at hz2
        omega
      rw [e, List.length_append, List.length_append, List.length_replicate] at hle
      have hp := cnt_pos c d
      refine ⟨_, rfl, _, _, rfl, rfl, .inl ⟨by decide, by decide⟩, _, rfl, _, _, rfl, rfl, _, rfl, _, _, rfl, rfl, .inl ⟨by decide, by decide⟩, _, _, rfl, rfl, ⟨by omega, by omega⟩, _, _, rfl, ?_⟩
      have ec : (if (2 * d + c) / (2 * c) > 1 then (2 * d + c) / (2 * c) else 1) = cntOf c d := rfl
      refine ⟨_, rfl, .inl ⟨rfl, _, SqL.of ho⟩, (by show 1 ≤ sizeLine; decide), fun p np => ?_⟩
      refine ⟨_, rfl, _, _, rfl, rfl, _, _, _, rfl, rfl, upd_same, ?_, ?_, ?_, fun p2 np2 => ?_⟩
      · show -(2 ^ 63) ≤ cntOf c d - 1
        omega
      · show cntOf c d - 1 < 2 ^ 63
        omega
      · show 1 * (cntOf c d - 1).toNat ≤ 16777216
        omega
      · show ∃ l b xs zs, _
        have sp : Same H' (upd H' p (.lst [.int 0])) := Same.new np
        have sp2 := Same.new (o := .lst ((List.replicate (cntOf c d - 1).toNat [V.int 0]).flatten)) np2
        refine ⟨_, _, _, _, rfl, rfl, sp2 _ _ (sp _ _ ho), upd_same, ?_, ?_⟩
        · rw [reps, List.length_map, List.length_replicate]
          show _ ≤ 16777216
          omega
        · refine ⟨_, rfl, .inl ⟨rfl, _, SqL.of upd_same⟩, _, _, _, rfl, rfl, upd_same, ?_, Same.mut (Same.mut (s.trans (sp.trans sp2)) no) no, ?_, _, _, rfl⟩
          · rw [reps, List.length_append, List.length_map, List.length_replicate]
            show _ < 16777216
            omega
          · rw [upd_same, e, List.map_append, List.map_append, map_reps, reps, List.append_assoc]
            rfl
    · obtain ⟨s, ho, y, z, rfl⟩ := p
      rw [List.length_map, List.take_length] at ho
      have hq : 0 ≤ (2 * r.rest + c) / (2 * c) := Int.ediv_nonneg (by omega) (by omega)
      refine ⟨_, rfl, (by show 1 ≤ sizeLine; decide), fun p np => ?_⟩
      have sp : Same H' (upd H' p (.lst [.int 0])) := Same.new np
      refine ⟨_, rfl, _, _, _, _, _, rfl, sp _ _ (s _ _ hx), W.c_Read.cl, W.a_Read_rest, rfl, _, _, rfl, rfl, .inl ⟨by decide, by decide⟩, _, rfl, _, _, rfl, rfl, _, rfl, _, _, rfl, rfl, .inl ⟨by decide, by decide⟩, _, _, rfl, rfl, ⟨by omega, by omega⟩, ?_⟩
      refine ⟨_, _, _, rfl, rfl, upd_same, ?_, ?_, ?_, fun p2 np2 => ?_⟩
      · show -(2 ^ 63) ≤ (2 * r.rest + c) / (2 * c)
        omega
      · show (2 * r.rest + c) / (2 * c) < 2 ^ 63
        omega
      · show 1 * ((2 * r.rest + c) / (2 * c)).toNat ≤ 16777216
        omega
      · have sp2 := Same.new (o := .lst ((List.replicate ((2 * r.rest + c) / (2 * c)).toNat [V.int 0]).flatten)) np2
        refine ⟨_, _, _, _, rfl, rfl, sp2 _ _ (sp _ _ ho), upd_same, ?_, fun p3 np3 => ?_⟩
        · rw [reps, List.length_map, List.length_replicate]
          show _ ≤ 16777216
          omega
        · have s5 := (s.trans (sp.trans sp2))
          refine q _ _ (s5.trans (Same.new np3)) (s5.free np3) ?_
          rw [upd_same, reps, ← map_reps, ← List.map_append]
          rfl
/-- lists of cells, all of one length -/
def Even (n : Nat) (lists : List (List Int)) : Prop := 0 < lists.length ∧ lists.length ≤ 100 ∧ ∀ l ∈ lists, l.length = n
def sp_shortest (K : PySem.W.Frag) : Sp := fun vs H Q _ => ∃ y lists n, vs = [y] ∧ ORow OLst lists y H ∧ Even n lists ∧ Ret H Q (.int (n : Nat))
abbrev N_shortest : List Str := ["lists", "cells"]
theorem sc_shortest : FnScope N_shortest ["lists"] (defScope s_shortest) := ⟨rfl, rfl, rfl, by decide +kernel, rfl, by decide +kernel, by decide +kernel⟩
theorem ok_shortest (W : T K mg) : Ok P w K mg base (1) "shortest" ["lists"] (sp_shortest K) := by
  refine W.f_shortest.F.ok sc_shortest (fun vs H Q E h => ?_) (fun cdv A outer s H vs Q E hr h => ?_)
  · obtain ⟨y, lists, n, rfl, _⟩ := h
    rfl
  · obtain ⟨_, lists, n, rfl, ⟨p, ys, rfl, hp, hr'⟩, ⟨h1, h2, h3⟩, q⟩ := h
    refine ⟨_, PSs.nox ((pss_cons
       (ps_if (pt_cmpR op_eq (pe_callB call_len_seq (by rfl) W.n_len (by decide +kernel) (pa_cons (pv 0) pa_nil)) pe_int (nomark _)) (pss_one
       ps_never) pss_nil)
       (pss_one
       (ps_ret (pe_callB (cr_min rfl) (by rfl) W.n_min (by decide +kernel) (pa_cons (pe_lc (own := [("cells", 1)]) rfl sc_shortest.nd (pi_list (pv 0)) (blkOk_by (own := [("cells", 1)]) (N := N_shortest) (sc := defScope s_shortest) (by decide +kernel)) (fun _ _ _ _ _ => (pg_name (i := 1) sc_shortest.nd rfl (Or.inl rfl))) (fun _ _ _ _ _ => pts_nil) (fun _ _ _ _ _ => (pe_callB (call_len_seqK (K := K) rfl) (by rfl) W.n_len (by decide +kernel) (pa_cons (pv 1) pa_nil)))) pa_nil)))))), ?_⟩
    have hlen : lists.length = ys.length := Paired.length hr'
    refine ⟨_, rfl, _, _, rfl, .inl (SqL.of hp), rfl, _, rfl, ite2 (fun h => ?_) fun _ => ?_⟩
    · exfalso
      have h' := of_decide_eq_true h
      injection h' with h'
      omega
    refine ⟨_, rfl, _, rfl, ⟨_, SqL.of hp⟩, fun D nD => ?_⟩
    refine lcR_map OLst mono_OLst lists (fun _ => V.int (n : Nat)) (SqL.of hp) hr' (by show _ ≤ 16777216; omega) nD (fun l x H1 k hm s ho hk => ?_) fun H1 s hD => ?_
    · obtain ⟨b, rfl, hb⟩ := ho
      refine ⟨rfl, _, rfl, _, _, rfl, .inl (SqL.of hb), ?_⟩
      rw [List.length_map, h3 l hm]
      exact hk _ (Same.refl _)
    · refine ⟨D, lists.map fun _ => ((n : Nat) : Int), rfl, SqL.of (by rw [hD, List.map_map]; rfl), by rw [List.length_map]; exact h1, fun m hm _ => ?_⟩
      obtain ⟨l, _, e⟩ := List.mem_map.mp hm
      rw [← e]
      exact q _ s
def sp_weak_places (K : PySem.W.Frag) : Sp := fun vs H Q _ => ∃ y lists n, vs = [y] ∧ ORow OLst lists y H ∧ Even n lists ∧ n ≤ 100000 ∧ NewI H Q (weakPlaces n lists)
abbrev N_weak_places : List Str := ["lists", "at", "cells"]
theorem sc_weak_places : FnScope N_weak_places ["lists"] (defScope s_weak_places) := ⟨rfl, rfl, rfl, by decide +kernel, rfl, by decide +kernel, by decide +kernel⟩
theorem ok_weak_places (W : T K mg) : Ok P w K mg base (2) "weak_places" ["lists"] (sp_weak_places K) := by
  refine W.f_weak_places.F.ok sc_weak_places (fun vs H Q E h => ?_) (fun cdv A outer s H vs Q E hr h => ?_)
  · obtain ⟨y, lists, n, rfl, _⟩ := h
    rfl
  · obtain ⟨_, lists, n, rfl, ⟨p, ys, rfl, hp, hr'⟩, hev, hz, q⟩ := h
    refine ⟨_, PSs.nox ((pss_one
       (ps_ret (pe_lc (own := [("at", 1)]) rfl sc_weak_places.nd (pi_range1 rfl W.n_range (pa_cons (pe_call (ok_shortest W) (hr.mono (by decide)) (by rfl) W.f_shortest.g W.f_shortest.F.kp W.f_shortest.b .nil pass0 (pa_cons (pv 0) pa_nil)) pa_nil)) (blkOk_by (own := [("at", 1)]) (N := N_weak_places) (sc := defScope s_weak_places) (by decide +kernel)) (fun _ _ _ _ _ => (pg_name (i := 1) sc_weak_places.nd rfl (Or.inr rfl))) (fun _ _ _ _ _ => (pts_one (pt_cmpR op_gt (pe_lenSetK (K := K) rfl rfl (by rfl) W.n_len (by rfl) W.n_set (pe_lc (own := [("cells", 2)]) rfl sc_weak_places.nd (pi_listK (K := K) rfl (pv 0)) (blkOk_by (own := [("cells", 2)]) (N := N_weak_places) rfl) (fun _ _ _ _ _ => (pg_name (i := 2) sc_weak_places.nd rfl (Or.inl rfl))) (fun _ _ _ _ _ => pts_nil) (fun _ _ _ _ _ => (pe_ix (ix_listK (K := K) rfl) (pv 2) (pv 1) (fun _ _ => rfl))))) pe_int (nomark _)))) (fun _ _ _ _ _ => (pv 1)))))), ?_⟩
    refine ⟨_, rfl, _, lists, n, rfl, ⟨p, ys, rfl, hp, hr'⟩, hev, fun H1 s1 => ⟨_, rfl, by omega, by omega, fun D nD => ?_⟩⟩
    refine lc_rng OInt (fun at' => decide (1 < distinct (lists.map fun l => l.getD at' 0))) (fun (i : Nat) => (i : Int)) mono_OInt ?_ nD (fun i H2 hi s2 hn k n' hk hn' => ?_) fun H2 N ys' s2 s3 nN hy r => ?_
    · show (n : Int).toNat ≤ 16777216
      omega
    · have e0 : (0 + (i : Int)) = (i : Int) := by omega
      rw [e0]
      refine ⟨rfl, _, rfl, _, rfl, ⟨_, SqL.of (s2 _ _ (s1 _ _ hp))⟩, fun D2 nD2 => ?_⟩
      refine lcR_map OLst mono_OLst lists (fun l => V.int (l.getD i 0)) (SqL.of (s2 _ _ (s1 _ _ hp))) (Paired.mapP hr' fun e y z => mono_OLst _ _ _ _ (s1.trans s2) z) (by have := hev.2.1; show _ ≤ 16777216; omega) nD2 (fun l x H3 k3 hm s3 ho hk3 => ?_) fun H3 s3 hD3 => ?_
      · obtain ⟨b, rfl, hb⟩ := ho
        have hl := hev.2.2 l hm
        refine ⟨rfl, _, rfl, _, rfl, _, _, _, .int (l.getD i 0), rfl, rfl, SqL.of hb, atI_nat (at_getD (by omega)), hk3 _ (Same.refl _)⟩
      · have hds : ((lists.map fun l => l.getD i 0).map V.int) = lists.map (fun l => V.int (l.getD i 0)) := by rw [List.map_map]; rfl
        refine ⟨D2, lists.map fun l => l.getD i 0, rfl, SqL.of (by rw [hD3, hds]), by rw [List.length_map]; have := hev.2.1; omega, _, _, rfl, rfl, _, rfl, ?_⟩
        refine ite2 (fun hc => ⟨_, rfl, hk ?_ _ _ s3 rfl⟩) fun hc => hn' ?_ _ s3
        · have h' := of_decide_eq_true hc
          exact decide_eq_true (by omega)
        · have h' : ¬ ((1 : Int) < ((distinct (lists.map fun l => l.getD i 0) : Nat) : Int)) := fun z => hc (decide_eq_true z)
          exact decide_eq_false (by omega)
    · have e := out_int r
      rw [e] at hy
      exact q _ _ ((s1.trans s2).trans s3) (s1.free nD) hy
end
end KW
end

section
set_option Elab.async false
set_option linter.all false
set_option maxRecDepth 100000
set_option maxHeartbeats 4000000
/-! tracks, the writing part: mirrors, promises. -/
namespace KW
open PySem PySem.Spec PyProof.Rows L2 KR
/-! ### the mathematics -/
/-- a sector -/
structure SecD where
  adr : List Int
  data : Option (List Int)
  aw : Bool
  dw : Bool
  deriving DecidableEq
def SecOk (s : SecD) : Prop := (∃ a b c : Int, s.adr = [a, b, c, 0] ∧ 0 ≤ a ∧ a ≤ 255 ∧ 0 ≤ b ∧ b ≤ 255 ∧ 0 ≤ c ∧ c ≤ 255) ∧ ∀ l, s.data = some l → l.length = 16 ∧ ∀ v ∈ l, 0 ≤ v ∧ v ≤ 255
def dataLen (size : Int) : Int := 16 * vals_POWERS_tracks.getD size.toNat 0
def secLen (s : SecD) : Int := match s.data with
  | none => 32
  | some l => 32 + (12 + (l.length : Int))
def wPlain (cells ns : List Int) : List Int := cells ++ mfm (cells.getLastD 0) ns
def fieldCheck (vs : List Int) (wr : Bool) : Int := if wr = true then Builtin.bitXor (crcI ([161, 161, 161] ++ vs)) 1 else crcI ([161, 161, 161] ++ vs)
def wField (cells vs : List Int) (wr : Bool) : List Int := wPlain (wPlain cells (List.replicate 6 0) ++ vals_THREE_MARKS) (vs ++ twoBytes (fieldCheck vs wr))
def wData (cells : List Int) (s : SecD) : List Int := match s.data with
  | none => cells
  | some l => wField cells (251 :: l) s.dw
def wSector (cells : List Int) (s : SecD) : List Int := wPlain (wData (wPlain (wField cells (254 :: s.adr) s.aw) (List.replicate 8 78)) s) (List.replicate 8 78)
def trackCells (secs : List SecD) : List Int := wPlain (secs.foldl wSector (wPlain [] (List.replicate 10 78))) []
theorem wPlain_len (cells ns : List Int) : (wPlain cells ns).length = cells.length + 16 * ns.length := by
  unfold wPlain
  rw [List.length_append, mfm_len]
theorem wField_len (cells vs : List Int) (wr : Bool) : (wField cells vs wr).length = cells.length + 176 + 16 * vs.length := by
  unfold wField
  rw [wPlain_len, List.length_append, wPlain_len, List.length_append, List.length_replicate]
  have h1 : vals_THREE_MARKS.length = 48 := rfl
  have h2 : (twoBytes (fieldCheck vs wr)).length = 2 := rfl
  omega
theorem wSector_len {cells : List Int} {s : SecD} (h : SecOk s) : (wSector cells s).length ≤ cells.length + 960 := by
  unfold wSector
  obtain ⟨⟨a, b, c, e, _⟩, h2⟩ := h
  rw [wPlain_len, List.length_replicate]
  have h3 : (wField cells (254 :: s.adr) s.aw).length = cells.length + 256 := by
    rw [wField_len, e]
    rfl
  have h4 : (wPlain (wField cells (254 :: s.adr) s.aw) (List.replicate 8 78)).length = cells.length + 384 := by rw [wPlain_len, List.length_replicate, h3]
  unfold wData
  split
  · omega
  · next l hl =>
    have h5 := (h2 l hl).1
    rw [wField_len, h4, List.length_cons]
    omega
theorem atI_neg1 {ns : List Int} (h : ns ≠ []) : atI (ns.map V.int) (-1) = some (.int (ns.getLastD 0)) := by
  have e : ns.map V.int = (ns.dropLast).map V.int ++ [.int (ns.getLast h)] := by
    rw [show ([V.int (ns.getLast h)] : List V) = [ns.getLast h].map V.int from rfl, ← List.map_append, List.dropLast_concat_getLast]
  rw [e, atI_last, List.getLastD_eq_getLast?, List.getLast?_eq_some_getLast h]
  rfl
section
variable {P : Program} {w : World} {K : PySem.W.Frag} {mg : Str → Option Value} {base : Heap}
def ODat : Option (List Int) → V → Hp → Prop := fun o y H => match o with
  | none => y = .non
  | some l => ∃ u, y = .ref u ∧ H u = some (.tup (l.map V.int))
theorem mono_ODat : Mono ODat := fun o y H H' s h => by
  cases o with
  | none => exact h
  | some l =>
    obtain ⟨u, e, h⟩ := h
    exact ⟨u, e, s _ _ h⟩
def OSecK (K : PySem.W.Frag) : SecD → V → Hp → Prop := fun s y H => ∃ x dx t d, y = .ref x ∧ H x = some (.ins (He.ga K "Sector") dx [("address", .ref t), ("data", d), ("address_wrong", .bl s.aw), ("data_wrong", .bl s.dw)]) ∧ H t = some (.tup (s.adr.map V.int)) ∧ ODat s.data d H
theorem mono_OSec : Mono (OSecK K) := fun _ _ _ _ s ⟨x, dx, t, d, e, h1, h2, h3⟩ => ⟨x, dx, t, d, e, s _ _ h1, s _ _ h2, mono_ODat _ _ _ _ s h3⟩
/-- the data as they are given: none or a list -/
def ODatL : Option (List Int) → V → Hp → Prop := fun o y H => match o with
  | none => y = .non
  | some l => ∃ u, y = .ref u ∧ H u = some (.lst (l.map V.int))
theorem mono_ODatL : Mono ODatL := fun o y H H' s h => by
  cases o with
  | none => exact h
  | some l =>
    obtain ⟨u, e, h⟩ := h
    exact ⟨u, e, s _ _ h⟩
def sp_Sector_init (K : PySem.W.Frag) : Sp := fun vs H Q _ => ∃ (x dx t : Addr) (d : V) (s : SecD), vs = [.ref x, .ref t, d, .bl s.aw, .bl s.dw] ∧ H x = some (.ins (He.ga K "Sector") dx []) ∧ H t = some (.tup (s.adr.map V.int)) ∧ ODatL s.data d H ∧
  ∀ H' d', But x H H' → ODat s.data d' (fresh H H') → H' x = some (.ins (He.ga K "Sector") dx [("address", .ref t), ("data", d'), ("address_wrong", .bl s.aw), ("data_wrong", .bl s.dw)]) → Q .non H'
abbrev N_Sector_init : List Str := ["self", "address", "data", "address_wrong", "data_wrong"]
theorem sc_Sector_init : FnScope N_Sector_init ["self", "address", "data", "address_wrong", "data_wrong"] (defScope s_Sector_init) := ⟨rfl, rfl, rfl, by decide +kernel, rfl, by decide +kernel, by decide +kernel⟩
theorem ok_Sector_init (W : T K mg) : OkM P w K mg base (1) "Sector" "__init__" ["self", "address", "data", "address_wrong", "data_wrong"] (sp_Sector_init K) := by
  refine W.f_Sector_init.F.ok sc_Sector_init (fun vs H Q E h => ?_) (fun cdv A outer s H vs Q E hr h => ?_)
  · obtain ⟨x, dx, t, d, s, rfl, _⟩ := h
    rfl
  · obtain ⟨x, dx, t, d, ⟨adr, data, aw, dw⟩, rfl, hx, ht, hd, q⟩ := h
    refine ⟨_, PSs.nox ((pss_cons
       (ps_fld (pv 0) (pe_callTy call_tuple_of (by rfl) W.n_tuple (by decide +kernel) (pa_cons (pv 1) pa_nil)) rfl)
       (pss_cons
       (ps_fld (pv 0) pe_non rfl)
       (pss_cons
       (ps_if (pt_cmp (pc_notN (pv 2))) (pss_one
       (ps_fld (pv 0) (pe_callTy call_tuple_of (by rfl) W.n_tuple (by decide +kernel) (pa_cons (pv 2) pa_nil)) rfl)) pss_nil)
       (pss_cons
       (ps_fld (pv 0) (pv 3) rfl)
       (pss_one
       (ps_fld (pv 0) (pv 4) rfl))))))), ?_⟩
    have hxt : t ≠ x := ne_of ht hx (by intro z; cases z)
    refine ⟨_, rfl, _, _, rfl, .inr ⟨SqT.of ht, _, rfl, _, _, _, _, rfl, hx, W.c_Sector.cl, W.a_Sector_address, (by show 0 < 1000; decide), ?_⟩⟩
    refine ⟨_, rfl, _, _, _, _, rfl, upd_same, W.c_Sector.cl, W.a_Sector_data, (by show 1 < 1000; decide), ?_⟩
    rw [upd_upd]
    cases data with
    | none =>
      obtain rfl : d = .non := hd
      refine ⟨_, rfl, _, rfl, ifF (by decide) ?_⟩
      refine ⟨_, rfl, _, rfl, _, _, _, _, rfl, upd_same, W.c_Sector.cl, W.a_Sector_address_wrong, (by show 2 < 1000; decide), ?_⟩
      rw [upd_upd]
      refine ⟨_, rfl, _, rfl, _, _, _, _, rfl, upd_same, W.c_Sector.cl, W.a_Sector_data_wrong, (by show 3 < 1000; decide), ?_⟩
      rw [upd_upd]
      exact q _ _ (But.upd But.refl) rfl upd_same
    | some l =>
      obtain ⟨u, rfl, hu⟩ := hd
      have hux : u ≠ x := ne_of hu hx (by intro z; cases z)
      refine ⟨_, rfl, _, rfl, ifT rfl ?_⟩
      refine ⟨_, rfl, _, _, rfl, .inl ⟨SqL.of (by rw [upd_ne hux]; exact hu), fun v nv => ?_⟩⟩
      have hvx : v ≠ x := by
        intro z
        rw [z, upd_same] at nv
        cases nv
      refine ⟨_, rfl, _, _, _, _, rfl, by rw [upd_ne hvx.symm, upd_same], W.c_Sector.cl, W.a_Sector_data, (by show 2 < 1000; decide), ?_⟩
      refine ⟨_, rfl, _, rfl, _, _, _, _, rfl, upd_same, W.c_Sector.cl, W.a_Sector_address_wrong, (by show 2 < 1000; decide), ?_⟩
      rw [upd_upd]
      refine ⟨_, rfl, _, rfl, _, _, _, _, rfl, upd_same, W.c_Sector.cl, W.a_Sector_data_wrong, (by show 3 < 1000; decide), ?_⟩
      rw [upd_upd]
      have nv' : H v = none := by rw [upd_ne hvx] at nv; exact nv
      refine q _ (.ref v) ?_ ⟨v, rfl, fresh_at nv' (by rw [upd_ne hvx, upd_same])⟩ upd_same
      refine But.upd fun b o n e => ?_
      rw [upd_ne (ne_of_none e nv'), upd_ne n]
      exact e
def sp_data_length (K : PySem.W.Frag) : Sp := fun vs H Q _ => ∃ z : Int, vs = [.int z] ∧ 0 ≤ z ∧ z ≤ 5 ∧ Q (.int (dataLen z)) H
abbrev N_data_length : List Str := ["size"]
theorem sc_data_length : FnScope N_data_length ["size"] (defScope s_data_length) := ⟨rfl, rfl, rfl, by decide +kernel, rfl, by decide +kernel, by decide +kernel⟩
theorem ok_data_length (W : T K mg) : Ok P w K mg base (1) "data_length" ["size"] (sp_data_length K) := by
  refine W.f_data_length.F.ok sc_data_length (fun vs H Q E h => ?_) (fun cdv A outer s H vs Q E hr h => ?_)
  · obtain ⟨z, rfl, _⟩ := h
    rfl
  · obtain ⟨z, rfl, h1, h2, q⟩ := h
    refine ⟨_, PSs.nox ((pss_one
       (ps_ret (pe_op op_mul (pgi W.i_SMALLEST) (pe_ix ix_tup (pgT W.T_POWERS_tracks) (pv 0) (fun _ _ => rfl)))))), ?_⟩
    have hz : z = ((z.toNat : Nat) : Int) := by omega
    refine ⟨_, rfl, _, _, _, .int (vals_POWERS_tracks.getD z.toNat 0), rfl, rfl, W.T_POWERS_tracks.2.sqT H, ?_, _, _, rfl, rfl, .inl ⟨by decide, by decide⟩, q⟩
    have e := atI_nat (at_getD (ns := vals_POWERS_tracks) (i := z.toNat) (by show _ < 6; omega))
    rw [← hz] at e
    exact e
def sp_is_sector (K : PySem.W.Frag) : Sp := fun vs H Q _ => ∃ y s, vs = [y] ∧ OSecK K s y H ∧ SecOk s ∧ Ret H Q (.bl true)
abbrev N_is_sector : List Str := ["sector", "value", "number"]
theorem sc_is_sector : FnScope N_is_sector ["sector"] (defScope s_is_sector) := ⟨rfl, rfl, rfl, by decide +kernel, rfl, by decide +kernel, by decide +kernel⟩
theorem ok_is_sector (W : T K mg) : Ok P w K mg base (2) "is_sector" ["sector"] (sp_is_sector K) := by
  refine W.f_is_sector.F.ok sc_is_sector (fun vs H Q E h => ?_) (fun cdv A outer s H vs Q E hr h => ?_)
  · obtain ⟨y, s, rfl, _⟩ := h
    rfl
  · obtain ⟨_, ⟨adr, data, aw, dw⟩, rfl, ⟨x, dx, t, d, rfl, hx, ht, hd⟩, ⟨⟨a1, a2, a3, rfl, b1, b2, b3, b4, b5, b6⟩, hok⟩, q⟩ := h
    refine ⟨_, PSs.nox ((pss_cons
       (ps_if (PW.pt (pw_or (pt_not (pt_val (pe_callB (cr_all rfl) (by rfl) W.n_all (by decide +kernel) (pa_cons (pe_lc (own := [("number", 2)]) rfl sc_is_sector.nd (pi_tup (pe_fld (pv 0) rfl)) (blkOk_by (own := [("number", 2)]) (N := N_is_sector) (sc := defScope s_is_sector) (by decide +kernel)) (fun _ _ _ _ _ => (pg_name (i := 2) sc_is_sector.nd rfl (Or.inl rfl))) (fun _ _ _ _ _ => pts_nil) (fun _ _ _ _ _ => (pe_chain op_le op_le pe_int (pv 2) pe_int))) pa_nil)))) (pw_or1 (pt_cmpR op_gt (pe_ix ix_tup (pe_fld (pv 0) rfl) pe_int (fun _ _ => rfl)) (pgi W.i_GREATEST_SIZE) (nomark _))))) (pss_one
       (ps_ret pe_bl)) pss_nil)
       (pss_cons
       (ps_if (pt_cmp (pc_isN (pe_fld (pv 0) rfl))) (pss_one
       (ps_ret pe_bl)) pss_nil)
       (pss_one
       (ps_ret (pe_and (pe_cmpR op_eq (pe_callB call_len_seq (by rfl) W.n_len (by decide +kernel) (pa_cons (pe_fld (pv 0) rfl) pa_nil)) (pe_call (ok_data_length W) (hr.mono (by decide)) (by rfl) W.f_data_length.g W.f_data_length.F.kp W.f_data_length.b .nil pass0 (pa_cons (pe_ix ix_tup (pe_fld (pv 0) rfl) pe_int (fun _ _ => rfl)) pa_nil)) (nomark _)) (pe_one (pe_callB (cr_all rfl) (by rfl) W.n_all (by decide +kernel) (pa_cons (pe_lc (own := [("value", 1)]) rfl sc_is_sector.nd (pi_tup (pe_fld (pv 0) rfl)) (blkOk_by (own := [("value", 1)]) (N := N_is_sector) (sc := defScope s_is_sector) (by decide +kernel)) (fun _ _ _ _ _ => (pg_name (i := 1) sc_is_sector.nd rfl (Or.inl rfl))) (fun _ _ _ _ _ => pts_nil) (fun _ _ _ _ _ => (pe_chain op_le op_le pe_int (pv 1) pe_int))) pa_nil))))))))), ?_⟩
    refine ⟨_, rfl, _, _, _, _, _, rfl, hx, W.c_Sector.cl, W.a_Sector_address, rfl, _, rfl, ⟨_, SqT.of ht⟩, fun D nD => ?_⟩
    refine lcT_map [a1, a2, a3, 0] V.int (fun _ => V.bl true) (SqT.of ht) (by show 4 ≤ sizeLine; decide) nD (fun e H1 k hm s hk => ?_) fun H1 s hD => ?_
    · have he : 0 ≤ e ∧ e ≤ 255 := by
        simp at hm
        rcases hm with rfl | rfl | rfl | rfl <;> omega
      refine ⟨rfl, _, rfl, _, _, rfl, rfl, _, rfl, ifT (decide_eq_true he.1) ⟨_, _, rfl, rfl, ?_⟩⟩
      show k (.bl (decide (e ≤ 255))) H1
      rw [decide_eq_true he.2]
      exact hk _ (Same.refl _)
    refine ⟨D, [true, true, true, true], rfl, SqL.of hD, _, rfl, iteF ?_⟩
    refine ⟨_, rfl, _, _, _, _, _, rfl, s _ _ hx, W.c_Sector.cl, W.a_Sector_address, rfl, _, _, _, .int 0, rfl, rfl, SqT.of (s _ _ ht), rfl, _, _, rfl, rfl, _, rfl, ifF (by decide) ?_⟩
    refine ⟨_, rfl, _, _, _, _, _, rfl, s _ _ hx, W.c_Sector.cl, W.a_Sector_data, rfl, _, rfl, ?_⟩
    cases data with
    | none =>
      obtain rfl : d = .non := hd
      exact ifT (by decide) (q _ s)
    | some l =>
      obtain ⟨u, rfl, hu⟩ := hd
      obtain ⟨hl16, hbd⟩ := hok l rfl
      refine ifF (by simp) ?_
      refine ⟨_, rfl, _, _, _, _, _, rfl, s _ _ hx, W.c_Sector.cl, W.a_Sector_data, rfl, _, _, rfl, .inr (SqT.of (s _ _ hu)), ?_⟩
      refine ⟨_, rfl, _, _, _, _, _, rfl, s _ _ hx, W.c_Sector.cl, W.a_Sector_address, rfl, _, _, _, .int 0, rfl, rfl, SqT.of (s _ _ ht), rfl, _, rfl, by decide, by decide, rfl, _, rfl, ?_⟩
      refine ifT (by rw [List.length_map, hl16]; rfl) ?_
      refine ⟨_, rfl, _, _, _, _, _, rfl, s _ _ hx, W.c_Sector.cl, W.a_Sector_data, rfl, _, rfl, ⟨_, SqT.of (s _ _ hu)⟩, fun D2 nD2 => ?_⟩
      refine lcT_map l V.int (fun _ => V.bl true) (SqT.of (s _ _ hu)) (by rw [hl16]; show 16 ≤ sizeLine; decide) nD2 (fun e H2 k hm s2 hk => ?_) fun H2 s2 hD2 => ?_
      · obtain ⟨g1, g2⟩ := hbd e hm
        refine ⟨rfl, _, rfl, _, _, rfl, rfl, _, rfl, ifT (decide_eq_true g1) ⟨_, _, rfl, rfl, ?_⟩⟩
        show k (.bl (decide (e ≤ 255))) H2
        rw [decide_eq_true g2]
        exact hk _ (Same.refl _)
      · refine ⟨D2, List.replicate l.length true, rfl, SqL.of ?_, ?_⟩
        · rw [hD2, List.map_const', List.map_replicate]
        · rw [show (List.replicate l.length true).all id = true by rw [List.all_replicate]; cases l.length <;> rfl]
          exact q _ (s.trans s2)
def sp_demand_sectors (K : PySem.W.Frag) : Sp := fun vs H Q _ => ∃ y secs, vs = [y] ∧ ORow (OSecK K) secs y H ∧ secs.length ≤ 10 ∧ (∀ s ∈ secs, SecOk s) ∧ Ret H Q .non
abbrev N_demand_sectors : List Str := ["sectors", "index"]
theorem sc_demand_sectors : FnScope N_demand_sectors ["sectors"] (defScope s_demand_sectors) := ⟨rfl, rfl, rfl, by decide +kernel, rfl, by decide +kernel, by decide +kernel⟩
theorem ok_demand_sectors (W : T K mg) : Ok P w K mg base (3) "demand_sectors" ["sectors"] (sp_demand_sectors K) := by
  refine W.f_demand_sectors.F.ok sc_demand_sectors (fun vs H Q E h => ?_) (fun cdv A outer s H vs Q E hr h => ?_)
  · obtain ⟨y, secs, rfl, _⟩ := h
    rfl
  · obtain ⟨_, secs, rfl, ⟨p, ys, rfl, hp, hpr⟩, hz, hok, q⟩ := h
    refine ⟨_, PSs.nox ((pss_one
       (ps_for PassesOwn.never rfl (pi_range1 rfl W.n_range (pa_cons (pe_callB call_len_seq (by rfl) W.n_len (by decide +kernel) (pa_cons (pv 0) pa_nil)) pa_nil)) (pg_name (i := 1) sc_demand_sectors.nd rfl (Or.inl rfl)) (pss_one
       (ps_if (pt_not (pt_val (pe_call (ok_is_sector W) (hr.mono (by decide)) (by rfl) W.f_is_sector.g W.f_is_sector.F.kp W.f_is_sector.b .nil pass0 (pa_cons (pe_ix ix_list (pv 0) (pv 1) (fun _ _ => rfl)) pa_nil)))) (pss_one
       ps_never) pss_nil))))), ?_⟩
    have hlen := Paired.length hpr
    refine ⟨_, rfl, _, _, rfl, .inl (SqL.of hp), _, rfl, by omega, by omega, ?_⟩
    refine for_range (n := _) (fun i σ H' => Same H H' ∧ ∃ z, σ = [some (.ref p), z]) ⟨Same.refl _, _, rfl⟩ (fun i σ H' hi pr => ?_) fun σ H' pr => q _ pr.1
    obtain ⟨s, z, rfl⟩ := pr
    have e0 : (0 + (i : Int)) = (i : Int) := by omega
    have hi' : i < secs.length := by omega
    obtain ⟨y, hy, ho⟩ := paired_get hpr (List.getElem?_eq_getElem hi')
    rw [e0]
    exact ⟨_, rfl, _, rfl, _, _, _, y, rfl, rfl, SqL.of (s _ _ hp), atI_nat hy, _, _, rfl, mono_OSec _ _ _ _ s ho, hok _ (List.getElem_mem hi'), fun H2 s2 => ⟨_, rfl, iteF ⟨s.trans s2, _, rfl⟩⟩⟩
def sp_sector_length (K : PySem.W.Frag) : Sp := fun vs H Q _ => ∃ y s, vs = [y] ∧ OSecK K s y H ∧ Q (.int (secLen s)) H
abbrev N_sector_length : List Str := ["sector", "count"]
theorem sc_sector_length : FnScope N_sector_length ["sector"] (defScope s_sector_length) := ⟨rfl, rfl, rfl, by decide +kernel, rfl, by decide +kernel, by decide +kernel⟩
theorem ok_sector_length (W : T K mg) : Ok P w K mg base (1) "sector_length" ["sector"] (sp_sector_length K) := by
  refine W.f_sector_length.F.ok sc_sector_length (fun vs H Q E h => ?_) (fun cdv A outer s H vs Q E hr h => ?_)
  · obtain ⟨y, s, rfl, _⟩ := h
    rfl
  · obtain ⟨_, ⟨adr, data, aw, dw⟩, rfl, ⟨x, dx, t, d, rfl, hx, ht, hd⟩, q⟩ := h
    refine ⟨_, PSs.nox ((pss_cons
       (ps_set (i := 1) sc_sector_length.nd rfl (Or.inl rfl) (pe_op op_add (pe_op op_add (pe_op op_add (pe_op op_add (pgi W.i_SYNC_COUNT) pe_int) pe_int) pe_int) (pgi W.i_GAP_COUNT)))
       (pss_cons
       (ps_if (pt_cmp (pc_notN (pe_fld (pv 0) rfl))) (pss_one
       (ps_aug (i := 1) sc_sector_length.nd rfl (Or.inl rfl) (pe_op op_add (pe_op op_add (pe_op op_add (pe_op op_add (pgi W.i_SYNC_COUNT) pe_int) pe_int) (pe_callB call_len_seq (by rfl) W.n_len (by decide +kernel) (pa_cons (pe_fld (pv 0) rfl) pa_nil))) pe_int) ip_add)) pss_nil)
       (pss_one
       (ps_ret (pe_op op_add (pv 1) (pgi W.i_GAP_COUNT))))))), ?_⟩
    refine ⟨_, _, rfl, rfl, _, _, rfl, rfl, _, _, rfl, rfl, _, _, rfl, rfl, ?_⟩
    refine ⟨_, rfl, _, _, _, _, _, rfl, hx, W.c_Sector.cl, W.a_Sector_data, rfl, _, rfl, ?_⟩
    cases data with
    | none =>
      obtain rfl : d = .non := hd
      exact ifF (by decide) ⟨_, rfl, _, _, rfl, rfl, q⟩
    | some l =>
      obtain ⟨u, rfl, hu⟩ := hd
      refine ifT (by rfl) ⟨_, rfl, _, _, rfl, rfl, _, _, rfl, rfl, _, rfl, _, _, _, _, _, rfl, hx, W.c_Sector.cl, W.a_Sector_data, rfl, _, _, rfl, .inr (SqT.of hu), _, _, rfl, rfl, _, _, rfl, rfl, _, _, rfl, rfl, _, rfl, _, _, rfl, rfl, ?_⟩
      have e : secLen ⟨adr, some l, aw, dw⟩ = 6 + 3 + 5 + 2 + 8 + (6 + 3 + 1 + (((l.map V.int).length : Nat) : Int) + 2) + 8 := by
        show 32 + (12 + (l.length : Int)) = _
        rw [List.length_map]
        omega
      rw [e] at q
      exact q
def trackBytes (secs : List SecD) : Int := 10 + (secs.map secLen).sum
theorem trackBytes_nn : ∀ secs : List SecD, 0 ≤ (secs.map secLen).sum
  | [] => Int.le_refl _
  | s :: r => by
    rw [List.map_cons, List.sum_cons]
    have h := trackBytes_nn r
    have h2 : 0 ≤ secLen s := by
      unfold secLen
      split <;> omega
    omega
def sp_track_bytes (K : PySem.W.Frag) : Sp := fun vs H Q _ => ∃ y secs, vs = [y] ∧ ORow (OSecK K) secs y H ∧ secs.length ≤ 10 ∧ (∀ s ∈ secs, SecOk s) ∧ Ret H Q (.int (trackBytes secs))
abbrev N_track_bytes : List Str := ["sectors", "sector"]
theorem sc_track_bytes : FnScope N_track_bytes ["sectors"] (defScope s_track_bytes) := ⟨rfl, rfl, rfl, by decide +kernel, rfl, by decide +kernel, by decide +kernel⟩
theorem ok_track_bytes (W : T K mg) : Ok P w K mg base (4) "track_bytes" ["sectors"] (sp_track_bytes K) := by
  refine W.f_track_bytes.F.ok sc_track_bytes (fun vs H Q E h => ?_) (fun cdv A outer s H vs Q E hr h => ?_)
  · obtain ⟨y, secs, rfl, _⟩ := h
    rfl
  · obtain ⟨_, secs, rfl, hrow, hz, hok, q⟩ := h
    refine ⟨_, PSs.nox ((pss_cons
       (ps_expr (pe_call (ok_demand_sectors W) (hr.mono (by decide)) (by rfl) W.f_demand_sectors.g W.f_demand_sectors.F.kp W.f_demand_sectors.b .nil pass0 (pa_cons (pv 0) pa_nil)))
       (pss_one
       (ps_ret (pe_op op_add (pgi W.i_FIRST_GAP) (pe_callB (cr_sum rfl) (by rfl) W.n_sum (by decide +kernel) (pa_cons (pe_lc (own := [("sector", 1)]) rfl sc_track_bytes.nd (pi_list (pv 0)) (blkOk_by (own := [("sector", 1)]) (N := N_track_bytes) (sc := defScope s_track_bytes) (by decide +kernel)) (fun _ _ _ _ _ => (pg_name (i := 1) sc_track_bytes.nd rfl (Or.inl rfl))) (fun _ _ _ _ _ => pts_nil) (fun _ _ _ _ _ => (pe_call (ok_sector_length W) (hr.mono (by decide)) (by rfl) W.f_sector_length.g W.f_sector_length.F.kp W.f_sector_length.b .nil pass0 (pa_cons (pv 1) pa_nil)))) pa_nil))))))), ?_⟩
    refine ⟨_, rfl, _, secs, rfl, hrow, hz, hok, fun H1 s1 => ?_⟩
    obtain ⟨p, ys, rfl, hp, hpr⟩ := mono_ORow mono_OSec _ _ _ _ s1 hrow
    refine ⟨_, rfl, _, rfl, ⟨_, SqL.of hp⟩, fun D nD => ?_⟩
    refine lcR_map (OSecK K) mono_OSec secs (fun s => V.int (secLen s)) (SqL.of hp) hpr (by show _ ≤ 16777216; omega) nD (fun e x H2 k hm s2 ho hk => ?_) fun H2 s2 hD => ?_
    · exact ⟨rfl, _, rfl, _, _, rfl, ho, hk _ (Same.refl _)⟩
    · exact ⟨D, secs.map secLen, rfl, SqL.of (by rw [hD, List.map_map]; rfl), _, _, rfl, rfl, q _ (s1.trans s2)⟩
/-- a writer, its list at l -/
def OWrK (K : PySem.W.Frag) (cells : List Int) (x l : Addr) (H : Hp) : Prop := ∃ dx, H x = some (.ins (He.ga K "Writer") dx [("cells", .ref l)]) ∧ H l = some (.lst (cells.map V.int))
def sp_Writer_init (K : PySem.W.Frag) : Sp := fun vs H Q _ => ∃ x dx, vs = [.ref x] ∧ H x = some (.ins (He.ga K "Writer") dx []) ∧
  ∀ H' l, But x H H' → H l = none → OWrK K [] x l H' → Q .non H'
abbrev N_Writer_init : List Str := ["self"]
theorem sc_Writer_init : FnScope N_Writer_init ["self"] (defScope s_Writer_init) := ⟨rfl, rfl, rfl, by decide +kernel, rfl, by decide +kernel, by decide +kernel⟩
theorem ok_Writer_init (W : T K mg) : OkM P w K mg base (1) "Writer" "__init__" ["self"] (sp_Writer_init K) := by
  refine W.f_Writer_init.F.ok sc_Writer_init (fun vs H Q E h => ?_) (fun cdv A outer s H vs Q E hr h => ?_)
  · obtain ⟨x, dx, rfl, _⟩ := h
    rfl
  · obtain ⟨x, dx, rfl, hx, q⟩ := h
    refine ⟨_, PSs.nox ((pss_one
       (ps_fld (pv 0) (pe_lst pa_nil) rfl))), ?_⟩
    refine ⟨Nat.zero_le _, fun l nl => ?_⟩
    have nxl := ne_of_none hx nl
    refine ⟨_, rfl, _, _, _, _, rfl, Same.new nl _ _ hx, W.c_Writer.cl, W.a_Writer_cells, (by show 0 < 1000; decide), ?_⟩
    exact q _ l (But.upd (But.of (Same.new nl))) nl ⟨dx, upd_same, by rw [upd_ne nxl.symm, upd_same]; rfl⟩
def sp_Writer_plain (K : PySem.W.Frag) : Sp := fun vs H Q _ => ∃ x l a cells ns, vs = [.ref x, .ref a] ∧ OWrK K cells x l H ∧ SqL K H a (ns.map V.int) ∧ ns.length ≤ 1000 ∧ cells.length ≤ 100000 ∧
  ∀ H', But l H H' → OWrK K (wPlain cells ns) x l H' → Q .non H'
abbrev N_Writer_plain : List Str := ["self", "values", "before"]
theorem sc_Writer_plain : FnScope N_Writer_plain ["self", "values"] (defScope s_Writer_plain) := ⟨rfl, rfl, rfl, by decide +kernel, rfl, by decide +kernel, by decide +kernel⟩
theorem ok_Writer_plain (W : T K mg) : OkM P w K mg base (4) "Writer" "plain" ["self", "values"] (sp_Writer_plain K) := by
  refine W.f_Writer_plain.F.ok sc_Writer_plain (fun vs H Q E h => ?_) (fun cdv A outer s H vs Q E hr h => ?_)
  · obtain ⟨x, l, a, cells, ns, rfl, _⟩ := h
    rfl
  · obtain ⟨x, l, a, cells, ns, rfl, ⟨dx, hx, hl⟩, ha, hz, hz2, q⟩ := h
    refine ⟨_, PSs.nox ((pss_cons
       (ps_set (i := 2) sc_Writer_plain.nd rfl (Or.inl rfl) pe_int)
       (pss_cons
       (ps_if (pt_cmpR op_gt (pe_callB call_len_seq (by rfl) W.n_len (by decide +kernel) (pa_cons (pe_fld (pv 0) rfl) pa_nil)) pe_int (nomark _)) (pss_one
       (ps_set (i := 2) sc_Writer_plain.nd rfl (Or.inl rfl) (pe_ix ix_list (pe_fld (pv 0) rfl) (pe_un un_neg pe_int) (fun _ _ => rfl)))) pss_nil)
       (pss_one
       (ps_expr (pe_bm PySem.F.plainAttrs_list PySem.F.slot_list_extend PySem.F.type_list_extend mt_extend (pe_fld (pv 0) rfl) (pa_cons (pe_callN (ok_mfm_cells W) (hr.mono (by decide)) (by rfl) W.f_mfm_cells.g W.f_mfm_cells.F.kp W.f_mfm_cells.bk pass0 (pa_cons (pv 1) pa_nil) (pk_cons (pv 2) pk_nil)) pa_nil))))))), ?_⟩
    have hxl : x ≠ l := ne_of hx hl (by intro z; cases z)
    have key : ∀ (XN : XK) b, b = cells.getLastD 0 → (tBM K "list" (rExtend) (tFld K (tVar 0) "cells") (tCons (tCallN 1 1 (sp_mfm_cells K) (fun us ws => us ++ ws) XN (tCons (tVar 1) tNil) (tCons (tVar 2) tNil)) tNil)) [some (.ref x), some (.ref a), some (.int b)] H (fun _ H' => Q .non H') := fun XN b hb => by
      refine ⟨_, rfl, _, _, _, _, _, rfl, hx, W.c_Writer.cl, W.a_Writer_cells, rfl, .inl ⟨rfl, _, SqL.of hl⟩, _, rfl, _, rfl, rfl, rfl, a, ns, b, rfl, ha, by omega, fun H1 p s1 np hp => ?_⟩
      refine ⟨_, _, _, _, rfl, rfl, s1 _ _ hl, hp, ?_, ?_⟩
      · rw [List.length_map, List.length_map, mfm_len]
        show _ ≤ 16777216
        omega
      · refine q _ (But.upd (But.of s1)) ⟨dx, by rw [upd_ne hxl]; exact s1 _ _ hx, ?_⟩
        rw [upd_same, ← List.map_append, hb]
        rfl
    refine ⟨_, rfl, _, _, _, _, _, rfl, hx, W.c_Writer.cl, W.a_Writer_cells, rfl, _, _, rfl, .inl (SqL.of hl), _, _, rfl, rfl, _, rfl, ite2 (fun h => ?_) fun h => ?_⟩
    · have hne : cells ≠ [] := by
        intro z
        subst z
        exact absurd (of_decide_eq_true h) (by decide)
      exact ⟨_, rfl, _, _, _, _, _, rfl, hx, W.c_Writer.cl, W.a_Writer_cells, rfl, _, rfl, _, _, _, .int (cells.getLastD 0), rfl, rfl, SqL.of hl, atI_neg1 hne, key _ _ rfl⟩
    · have hne : cells = [] := by
        cases cells with
        | nil => rfl
        | cons c r => 
          refine absurd (decide_eq_true ?_) h
          show (0 : Int) < (((c :: r).map V.int).length : Nat)
          rw [List.length_map, List.length_cons]
          omega
      exact key _ 0 (by rw [hne]; rfl)
theorem OWrK.mono {H H' : Hp} {cells : List Int} {x l : Addr} (h : OWrK K cells x l H) (s : Same H H') : OWrK K cells x l H' := by
  obtain ⟨dx, h1, h2⟩ := h
  exact ⟨dx, s _ _ h1, s _ _ h2⟩
theorem But.step {H H1 H2 : Hp} {x : Addr} (s : But x H H1) (t : Same H1 H2) : But x H H2 := s.trans (But.of t)
def sp_Writer_field (K : PySem.W.Frag) : Sp := fun vs H Q _ => ∃ x l a cells ns wr, vs = [.ref x, .ref a, .bl wr] ∧ OWrK K cells x l H ∧ H a = some (.lst (ns.map V.int)) ∧ a ≠ l ∧ ns.length ≤ 100 ∧ cells.length ≤ 50000 ∧
  ∀ H', But l H H' → OWrK K (wField cells ns wr) x l H' → Q .non H'
abbrev N_Writer_field : List Str := ["self", "values", "is_wrong", "check"]
theorem sc_Writer_field : FnScope N_Writer_field ["self", "values", "is_wrong"] (defScope s_Writer_field) := ⟨rfl, rfl, rfl, by decide +kernel, rfl, by decide +kernel, by decide +kernel⟩
theorem ok_Writer_field (W : T K mg) : OkM P w K mg base (5) "Writer" "field" ["self", "values", "is_wrong"] (sp_Writer_field K) := by
  refine W.f_Writer_field.F.ok sc_Writer_field (fun vs H Q E h => ?_) (fun cdv A outer s H vs Q E hr h => ?_)
  · obtain ⟨x, l, a, cells, ns, wr, rfl, _⟩ := h
    rfl
  · obtain ⟨x, l, a, cells, ns, wr, rfl, hw, ha, hal, hz, hz2, q⟩ := h
    refine ⟨_, PSs.nox ((pss_cons
       (ps_expr (pe_meth (pv 0) W.c_Writer.cl W.f_Writer_plain.M (ok_Writer_plain W) (hr.mono (by decide)) W.f_Writer_plain.b .nil pass0 (pa_cons (pe_op op_rep (pe_lst (pa_cons pe_int pa_nil)) (pgi W.i_SYNC_COUNT)) pa_nil)))
       (pss_cons
       (ps_expr (pe_bm PySem.F.plainAttrs_list PySem.F.slot_list_extend PySem.F.type_list_extend mt_extT (pe_fld (pv 0) rfl) (pa_cons (pgT W.T_THREE_MARKS) pa_nil)))
       (pss_cons
       (ps_set (i := 3) sc_Writer_field.nd rfl (Or.inl rfl) (pe_call (ok_crc W) (hr.mono (by decide)) (by rfl) W.f_crc.g W.f_crc.F.kp W.f_crc.b .nil pass0 (pa_cons (pe_op op_cat (pe_op op_rep (pe_lst (pa_cons (pgi W.i_MARK_BYTE) pa_nil)) pe_int) (pv 1)) pa_nil)))
       (pss_cons
       (ps_if (pt_val (pv 2)) (pss_one
       (ps_set (i := 3) sc_Writer_field.nd rfl (Or.inl rfl) (pe_call (ok_exclusive W) (hr.mono (by decide)) (by rfl) W.f_exclusive.g W.f_exclusive.F.kp W.f_exclusive.b .nil pass0 (pa_cons (pv 3) (pa_cons pe_int pa_nil))))) pss_nil)
       (pss_one
       (ps_expr (pe_meth (pv 0) W.c_Writer.cl W.f_Writer_plain.M (ok_Writer_plain W) (hr.mono (by decide)) W.f_Writer_plain.b .nil pass0 (pa_cons (pe_op op_cat (pv 1) (pe_call (ok_two_bytes W) (hr.mono (by decide)) (by rfl) W.f_two_bytes.g W.f_two_bytes.F.kp W.f_two_bytes.b .nil pass0 (pa_cons (pv 3) pa_nil))) pa_nil))))))))), ?_⟩
    obtain ⟨dx, hx, hl⟩ := id hw
    refine ⟨_, rfl, _, _, _, rfl, hx, rfl, (by show 1 ≤ sizeLine; decide), fun p np => ⟨_, _, _, rfl, rfl, upd_same, by decide, by decide, (by show 1 * 6 ≤ sizeLine; decide), fun p2 np2 => ?_⟩⟩
    have s2 : Same H (upd (upd H p (.lst [.int 0])) p2 (.lst ((List.replicate (6 : Int).toNat [V.int 0]).flatten))) := (Same.new np).trans (Same.new np2)
    refine ⟨x, l, p2, cells, List.replicate 6 0, rfl, hw.mono s2, SqL.of upd_same, by decide, by omega, fun H1 b1 w1 => ?_⟩
    have b1' : But l H H1 := (But.of s2).trans b1
    obtain ⟨dx1, hx1, hl1⟩ := w1
    have hxl := ne_of hx1 hl1 (by intro z; cases z)
    refine ⟨_, rfl, _, _, _, _, _, rfl, hx1, W.c_Writer.cl, W.a_Writer_cells, rfl, .inl ⟨rfl, _, SqL.of hl1⟩, _, _, _, _, rfl, rfl, hl1, W.T_THREE_MARKS.2, ?_, ?_⟩
    · rw [List.length_map, wPlain_len, List.length_replicate]
      show _ + 48 ≤ 16777216
      omega
    have w2 : OWrK K (wPlain cells (List.replicate 6 0) ++ vals_THREE_MARKS) x l (upd H1 l (.lst ((wPlain cells (List.replicate 6 0)).map V.int ++ vals_THREE_MARKS.map V.int))) := ⟨dx1, by rw [upd_ne hxl]; exact hx1, by rw [upd_same, List.map_append]⟩
    have b2 : But l H (upd H1 l (.lst ((wPlain cells (List.replicate 6 0)).map V.int ++ vals_THREE_MARKS.map V.int))) := But.upd b1'
    have hz5 : (wPlain cells (List.replicate 6 0) ++ vals_THREE_MARKS).length ≤ 100000 := by
      rw [List.length_append, wPlain_len, List.length_replicate]
      show _ + 48 ≤ 100000
      omega
    revert w2 b2
    generalize upd H1 l (.lst ((wPlain cells (List.replicate 6 0)).map V.int ++ vals_THREE_MARKS.map V.int)) = H2
    intro w2 b2
    refine ⟨(by show 1 ≤ sizeLine; decide), fun p3 np3 => ⟨_, _, _, rfl, rfl, upd_same, by decide, by decide, (by show 1 * 3 ≤ sizeLine; decide), fun p4 np4 => ?_⟩⟩
    have s34 : Same H2 (upd (upd H2 p3 (.lst [.int 161])) p4 (.lst ((List.replicate (3 : Int).toNat [V.int 161]).flatten))) := (Same.new np3).trans (Same.new np4)
    have ha3 := s34 _ _ (b2 _ _ hal ha)
    refine ⟨_, rfl, _, _, _, _, rfl, rfl, upd_same, ha3, ?_, fun p5 np5 => ?_⟩
    · rw [List.length_map]
      show 3 + ns.length ≤ 16777216
      omega
    have s5 := s34.trans (Same.new (o := .lst ((List.replicate (3 : Int).toNat [V.int 161]).flatten ++ ns.map V.int)) np5)
    refine ⟨p5, [161, 161, 161] ++ ns, rfl, SqL.of (by rw [List.map_append]; exact upd_same), fun H3 s3 => ?_⟩
    have w3 := w2.mono (s5.trans s3)
    have b3 := b2.step (s5.trans s3)
    refine ⟨_, rfl, _, rfl, ?_⟩
    cases wr with
    | false =>
      refine iteF ?_
      obtain ⟨dx3, hx3, hl3⟩ := w3
      refine ⟨_, rfl, _, _, _, rfl, hx3, rfl, _, rfl, _, rfl, _, rfl, fun H4 p6 s4 np6 hp6 => ?_⟩
      have ha4 := s4 _ _ (b3 _ _ hal ha)
      refine ⟨_, _, _, _, rfl, rfl, ha4, hp6, ?_, fun p7 np7 => ?_⟩
      · rw [List.length_map, List.length_map]
        show ns.length + 2 ≤ 16777216
        omega
      have s7 := Same.new (o := .lst (ns.map V.int ++ (twoBytes (fieldCheck ns false)).map V.int)) np7
      refine ⟨x, l, p7, _, ns ++ twoBytes (fieldCheck ns false), rfl, (OWrK.mono ⟨dx3, hx3, hl3⟩ (s4.trans s7)), SqL.of (by rw [List.map_append]; exact upd_same), ?_, hz5, fun H5 b5 w5 => q _ ((b3.step (s4.trans s7)).trans b5) w5⟩
      rw [List.length_append]
      show ns.length + 2 ≤ 1000
      omega
    | true =>
      refine iteT ⟨_, rfl, _, _, rfl, ?_⟩
      obtain ⟨dx3, hx3, hl3⟩ := w3
      refine ⟨_, rfl, _, _, _, rfl, hx3, rfl, _, rfl, _, rfl, _, rfl, fun H4 p6 s4 np6 hp6 => ?_⟩
      have ha4 := s4 _ _ (b3 _ _ hal ha)
      refine ⟨_, _, _, _, rfl, rfl, ha4, hp6, ?_, fun p7 np7 => ?_⟩
      · rw [List.length_map, List.length_map]
        show ns.length + 2 ≤ 16777216
        omega
      have s7 := Same.new (o := .lst (ns.map V.int ++ (twoBytes (fieldCheck ns true)).map V.int)) np7
      refine ⟨x, l, p7, _, ns ++ twoBytes (fieldCheck ns true), rfl, (OWrK.mono ⟨dx3, hx3, hl3⟩ (s4.trans s7)), SqL.of (by rw [List.map_append]; exact upd_same), ?_, hz5, fun H5 b5 w5 => q _ ((b3.step (s4.trans s7)).trans b5) w5⟩
      rw [List.length_append]
      show ns.length + 2 ≤ 1000
      omega
theorem track_len : ∀ (secs : List SecD) (cells : List Int), (∀ s ∈ secs, SecOk s) → (secs.foldl wSector cells).length ≤ cells.length + 960 * secs.length
  | [], cells, _ => Nat.le_refl _
  | s :: r, cells, h => by
    have h1 := track_len r (wSector cells s) fun s hs => h s (List.mem_cons_of_mem _ hs)
    have h2 := wSector_len (cells := cells) (h s (List.mem_cons_self ..))
    rw [List.foldl_cons, List.length_cons]
    omega
theorem start_len : (wPlain [] (List.replicate 10 78)).length = 160 := by rw [wPlain_len, List.length_replicate]; rfl
def sp_track_cells (K : PySem.W.Frag) : Sp := fun vs H Q _ => ∃ y secs, vs = [y, .int 0] ∧ ORow (OSecK K) secs y H ∧ secs.length ≤ 10 ∧ (∀ s ∈ secs, SecOk s) ∧ NewI H Q (trackCells secs)
abbrev N_track_cells : List Str := ["sectors", "length", "count", "writer", "sector"]
theorem sc_track_cells : FnScope N_track_cells ["sectors", "length"] (defScope s_track_cells) := ⟨rfl, rfl, rfl, by decide +kernel, rfl, by decide +kernel, by decide +kernel⟩
theorem ok_track_cells (W : T K mg) : Ok P w K mg base (6) "track_cells" ["sectors", "length"] (sp_track_cells K) := by
  refine W.f_track_cells.F.ok sc_track_cells (fun vs H Q E h => ?_) (fun cdv A outer s H vs Q E hr h => ?_)
  · obtain ⟨y, secs, rfl, _⟩ := h
    rfl
  · obtain ⟨_, secs, rfl, hrow, hz, hok, q⟩ := h
    refine ⟨_, PSs.nox ((pss_cons
       (ps_set (i := 2) sc_track_cells.nd rfl (Or.inl rfl) (pe_call (ok_track_bytes W) (hr.mono (by decide)) (by rfl) W.f_track_bytes.g W.f_track_bytes.F.kp W.f_track_bytes.b .nil pass0 (pa_cons (pv 0) pa_nil)))
       (pss_cons
       (ps_set (i := 3) sc_track_cells.nd rfl (Or.inl rfl) (pe_make0 W.c_Writer.mk' (ok_Writer_init W) (hr.mono (by decide)) (by rfl) W.c_Writer.g W.f_Writer_init.b .nil pass0))
       (pss_cons
       (ps_expr (pe_meth (pv 3) W.c_Writer.cl W.f_Writer_plain.M (ok_Writer_plain W) (hr.mono (by decide)) W.f_Writer_plain.b .nil pass0 (pa_cons (pe_op op_rep (pe_lst (pa_cons (pgi W.i_GAP) pa_nil)) (pgi W.i_FIRST_GAP)) pa_nil)))
       (pss_cons
       (ps_for PassesOwn.never rfl (pi_list (pv 0)) (pg_name (i := 4) sc_track_cells.nd rfl (Or.inl rfl)) (pss_cons
       (ps_expr (pe_meth (pv 3) W.c_Writer.cl W.f_Writer_field.M (ok_Writer_field W) (hr.mono (by decide)) W.f_Writer_field.b .nil pass0 (pa_cons (pe_op op_cat (pe_lst (pa_cons (pgi W.i_ADDRESS_BYTE) pa_nil)) (pe_callTy call_list_of (by rfl) W.n_list (by decide +kernel) (pa_cons (pe_fld (pv 4) rfl) pa_nil))) (pa_cons (pe_fld (pv 4) rfl) pa_nil))))
       (pss_cons
       (ps_expr (pe_meth (pv 3) W.c_Writer.cl W.f_Writer_plain.M (ok_Writer_plain W) (hr.mono (by decide)) W.f_Writer_plain.b .nil pass0 (pa_cons (pe_op op_rep (pe_lst (pa_cons (pgi W.i_GAP) pa_nil)) (pgi W.i_GAP_COUNT)) pa_nil)))
       (pss_cons
       (ps_if (pt_cmp (pc_notN (pe_fld (pv 4) rfl))) (pss_one
       (ps_expr (pe_meth (pv 3) W.c_Writer.cl W.f_Writer_field.M (ok_Writer_field W) (hr.mono (by decide)) W.f_Writer_field.b .nil pass0 (pa_cons (pe_op op_cat (pe_lst (pa_cons (pgi W.i_DATA_BYTE) pa_nil)) (pe_callTy call_list_of (by rfl) W.n_list (by decide +kernel) (pa_cons (pe_fld (pv 4) rfl) pa_nil))) (pa_cons (pe_fld (pv 4) rfl) pa_nil))))) pss_nil)
       (pss_one
       (ps_expr (pe_meth (pv 3) W.c_Writer.cl W.f_Writer_plain.M (ok_Writer_plain W) (hr.mono (by decide)) W.f_Writer_plain.b .nil pass0 (pa_cons (pe_op op_rep (pe_lst (pa_cons (pgi W.i_GAP) pa_nil)) (pgi W.i_GAP_COUNT)) pa_nil))))))))
       (pss_cons
       (ps_expr (pe_meth (pv 3) W.c_Writer.cl W.f_Writer_plain.M (ok_Writer_plain W) (hr.mono (by decide)) W.f_Writer_plain.b .nil pass0 (pa_cons (pe_op op_rep (pe_lst (pa_cons (pgi W.i_GAP) pa_nil)) (pe_callB (call_max2 rfl) (by rfl) W.n_max (by decide +kernel) (pa_cons pe_int (pa_cons (pe_op op_sub (pv 1) (pv 2)) pa_nil)))) pa_nil)))
       (pss_one
       (ps_ret (pe_fld (pv 3) rfl))))))))), ?_⟩
    refine ⟨_, rfl, _, secs, rfl, hrow, hz, hok, fun H1 s1 => ?_⟩
    refine fun x dx nx nd ne => ⟨x, dx, rfl, upd_same, fun H2 l b2 nl w2 => ⟨rfl, ?_⟩⟩
    have s2 : Same H1 H2 := But.made b2 nx nd
    have nl1 : H1 l = none := (But.made But.refl nx nd : Same H1 _).free nl
    have nlH : H l = none := s1.free nl1
    have s2' := s1.trans s2
    obtain ⟨dx2, hx2, hl2⟩ := id w2
    refine ⟨_, rfl, _, _, _, rfl, hx2, rfl, (by show 1 ≤ sizeLine; decide), fun p np => ⟨_, _, _, rfl, rfl, upd_same, by decide, by decide, (by show 1 * 10 ≤ sizeLine; decide), fun p2 np2 => ?_⟩⟩
    have s3 : Same H2 (upd (upd H2 p (.lst [.int 78])) p2 (.lst ((List.replicate (10 : Int).toNat [V.int 78]).flatten))) := (Same.new np).trans (Same.new np2)
    refine ⟨x, l, p2, [], List.replicate 10 78, rfl, w2.mono s3, SqL.of upd_same, by decide, by decide, fun H3 b3 w3 => ?_⟩
    have s3' : Same H H3 := (((But.of (s2'.trans s3)).trans b3)).same nlH
    obtain ⟨pr, ys, rfl, hp0, hpr0⟩ := hrow
    have hlen := Paired.length hpr0
    refine ⟨_, rfl, _, rfl, ⟨_, SqL.of (s3' _ _ hp0)⟩, ?_⟩
    refine for_list (xs := ys) (fun i σ H' => Same H H' ∧ OWrK K ((secs.take i).foldl wSector (wPlain [] (List.replicate 10 78))) x l H' ∧ ∃ z, σ = [some (.ref pr), some (.int 0), some (.int (trackBytes secs)), some (.ref x), z]) ⟨s3', w3, _, rfl⟩ (fun i σ H' _ p => SqL.of (p.1 _ _ hp0)) (fun i y σ H' hy p => ?_) fun σ H' p => ?_
    · obtain ⟨s4, w4, z, rfl⟩ := p
      obtain ⟨sd, hsd, ho⟩ := paired_get' hpr0 hy
      have hsm := List.mem_of_getElem? hsd
      have hsok := hok sd hsm
      have hi : i < secs.length := (List.getElem?_eq_some_iff.mp hsd).1
      have hcl : ((secs.take i).foldl wSector (wPlain [] (List.replicate 10 78))).length ≤ 160 + 960 * 10 := by
        have h1 := track_len (secs.take i) (wPlain [] (List.replicate 10 78)) fun s hs => hok s (List.mem_of_mem_take hs)
        rw [start_len, List.length_take] at h1
        omega
      rw [foldl_take _ _ hsd]
      generalize (secs.take i).foldl wSector (wPlain [] (List.replicate 10 78)) = cells at w4 hcl ⊢
      obtain ⟨xs, dxs, t, d, rfl, hxs0, ht0, hd0⟩ := mono_OSec _ _ _ _ s4 ho
      obtain ⟨dx4, hx4, hl4⟩ := id w4
      obtain ⟨⟨a1, a2, a3, eadr, _⟩, hdat⟩ := hsok
      refine ⟨_, rfl, _, _, _, rfl, hx4, rfl, (by show 1 ≤ sizeLine; decide), fun p np => ?_⟩
      have sp := Same.new (o := .lst [.int 254]) np
      refine ⟨_, rfl, _, _, _, _, _, rfl, sp _ _ hxs0, W.c_Sector.cl, W.a_Sector_address, rfl, _, _, rfl, .inr (SqT.of (sp _ _ ht0)), fun p2 np2 => ?_⟩
      have sp2 := Same.new (o := .lst (sd.adr.map V.int)) np2
      refine ⟨_, _, _, _, rfl, rfl, sp2 _ _ upd_same, upd_same, (by rw [eadr]; show 5 ≤ sizeLine; decide), fun p3 np3 => ?_⟩
      have sp3 := Same.new (o := .lst ([V.int 254] ++ sd.adr.map V.int)) np3
      have s5 := (sp.trans sp2).trans sp3
      refine ⟨_, rfl, _, _, _, _, _, rfl, s5 _ _ hxs0, W.c_Sector.cl, W.a_Sector_address_wrong, rfl, ?_⟩
      refine ⟨x, l, p3, cells, 254 :: sd.adr, sd.aw, rfl, w4.mono s5, upd_same, (ne_of_none ((sp.trans sp2) _ _ hl4) np3).symm, (by rw [eadr]; show 5 ≤ 100; decide), by omega, fun H5 b5 w5 => ?_⟩
      have s5' : Same H H5 := ((But.of (s4.trans s5)).trans b5).same nlH
      obtain ⟨dx5, hx5, hl5⟩ := id w5
      have hl5n : (wField cells (254 :: sd.adr) sd.aw).length = cells.length + 256 := by
        rw [wField_len, eadr]
        rfl
      refine ⟨_, rfl, _, _, _, rfl, hx5, rfl, (by show 1 ≤ sizeLine; decide), fun p np => ⟨_, _, _, rfl, rfl, upd_same, by decide, by decide, (by show 1 * 8 ≤ sizeLine; decide), fun p2 np2 => ?_⟩⟩
      have s6 : Same H5 (upd (upd H5 p (.lst [.int 78])) p2 (.lst ((List.replicate (8 : Int).toNat [V.int 78]).flatten))) := (Same.new np).trans (Same.new np2)
      refine ⟨x, l, p2, _, List.replicate 8 78, rfl, w5.mono s6, SqL.of upd_same, by decide, by omega, fun H6 b6 w6 => ?_⟩
      have s6' : Same H H6 := ((But.of (s5'.trans s6)).trans b6).same nlH
      have hl6n : (wPlain (wField cells (254 :: sd.adr) sd.aw) (List.replicate 8 78)).length = cells.length + 384 := by
        rw [wPlain_len, List.length_replicate, hl5n]
      obtain ⟨xs', dxs', t', d', e', hxs6, ht6, hd6⟩ := mono_OSec _ _ _ _ s6' ho
      obtain rfl := V.ref.inj e'
      obtain ⟨dx6, hx6, hl6⟩ := id w6
      refine ⟨_, rfl, _, _, _, _, _, rfl, hxs6, W.c_Sector.cl, W.a_Sector_data, rfl, _, rfl, ?_⟩
      cases hdd : sd.data with
      | none =>
        rw [hdd] at hd6
        obtain rfl : d' = .non := hd6
        refine ifF (by decide) ?_
        have ew : wSector cells sd = wPlain (wPlain (wField cells (254 :: sd.adr) sd.aw) (List.replicate 8 78)) (List.replicate 8 78) := by
          unfold wSector wData
          rw [hdd]
        refine ⟨_, rfl, _, _, _, rfl, hx6, rfl, (by show 1 ≤ sizeLine; decide), fun p np => ⟨_, _, _, rfl, rfl, upd_same, by decide, by decide, (by show 1 * 8 ≤ sizeLine; decide), fun p2 np2 => ?_⟩⟩
        have s7 : Same H6 (upd (upd H6 p (.lst [.int 78])) p2 (.lst ((List.replicate (8 : Int).toNat [V.int 78]).flatten))) := (Same.new np).trans (Same.new np2)
        refine ⟨x, l, p2, _, List.replicate 8 78, rfl, w6.mono s7, SqL.of upd_same, by decide, by omega, fun H7 b7 w7 => ?_⟩
        exact ⟨((But.of (s6'.trans s7)).trans b7).same nlH, by rw [ew]; exact w7, _, rfl⟩
      | some dl =>
        rw [hdd] at hd6
        obtain ⟨u, rfl, hu⟩ := hd6
        have hdl := (hdat dl hdd).1
        refine ifT (by rfl) ?_
        have ew : wSector cells sd = wPlain (wField (wPlain (wField cells (254 :: sd.adr) sd.aw) (List.replicate 8 78)) (251 :: dl) sd.dw) (List.replicate 8 78) := by
          unfold wSector wData
          rw [hdd]
        refine ⟨_, rfl, _, _, _, rfl, hx6, rfl, (by show 1 ≤ sizeLine; decide), fun p np => ?_⟩
        have sp := Same.new (o := .lst [.int 251]) np
        refine ⟨_, rfl, _, _, _, _, _, rfl, sp _ _ hxs6, W.c_Sector.cl, W.a_Sector_data, rfl, _, _, rfl, .inr (SqT.of (sp _ _ hu)), fun p2 np2 => ?_⟩
        have sp2 := Same.new (o := .lst (dl.map V.int)) np2
        refine ⟨_, _, _, _, rfl, rfl, sp2 _ _ upd_same, upd_same, (by rw [List.length_map, hdl]; show 17 ≤ sizeLine; decide), fun p3 np3 => ?_⟩
        have sp3 := Same.new (o := .lst ([V.int 251] ++ dl.map V.int)) np3
        have s7 := (sp.trans sp2).trans sp3
        refine ⟨_, rfl, _, _, _, _, _, rfl, s7 _ _ hxs6, W.c_Sector.cl, W.a_Sector_data_wrong, rfl, ?_⟩
        refine ⟨x, l, p3, _, 251 :: dl, sd.dw, rfl, w6.mono s7, upd_same, (ne_of_none ((sp.trans sp2) _ _ hl6) np3).symm, (by rw [List.length_cons, hdl]; decide), by omega, fun H7 b7 w7 => ?_⟩
        have s7' : Same H H7 := ((But.of (s6'.trans s7)).trans b7).same nlH
        obtain ⟨dx7, hx7, hl7⟩ := id w7
        have hl7n : (wField (wPlain (wField cells (254 :: sd.adr) sd.aw) (List.replicate 8 78)) (251 :: dl) sd.dw).length = cells.length + 832 := by
          rw [wField_len, hl6n, List.length_cons, hdl]
        refine ⟨_, rfl, _, _, _, rfl, hx7, rfl, (by show 1 ≤ sizeLine; decide), fun p np => ⟨_, _, _, rfl, rfl, upd_same, by decide, by decide, (by show 1 * 8 ≤ sizeLine; decide), fun p2 np2 => ?_⟩⟩
        have s8 : Same H7 (upd (upd H7 p (.lst [.int 78])) p2 (.lst ((List.replicate (8 : Int).toNat [V.int 78]).flatten))) := (Same.new np).trans (Same.new np2)
        refine ⟨x, l, p2, _, List.replicate 8 78, rfl, w7.mono s8, SqL.of upd_same, by decide, by omega, fun H8 b8 w8 => ?_⟩
        exact ⟨((But.of (s7'.trans s8)).trans b8).same nlH, by rw [ew]; exact w8, _, rfl⟩
    · obtain ⟨s4, w4, z, rfl⟩ := p
      rw [← hlen, List.take_length] at w4
      obtain ⟨dx4, hx4, hl4⟩ := id w4
      have hcl : (secs.foldl wSector (wPlain [] (List.replicate 10 78))).length ≤ 160 + 960 * 10 := by
        have h1 := track_len secs (wPlain [] (List.replicate 10 78)) hok
        rw [start_len] at h1
        omega
      refine ⟨_, rfl, _, _, _, rfl, hx4, rfl, (by show 1 ≤ sizeLine; decide), fun p np => ?_⟩
      refine ⟨_, rfl, _, rfl, _, _, rfl, rfl, _, _, rfl, ?_⟩
      have hnn := trackBytes_nn secs
      have em : (if (0 - trackBytes secs : Int) > 0 then (0 - trackBytes secs : Int) else 0) = 0 := by
        rw [if_neg]
        unfold trackBytes
        omega
      show rRep _ _ _ _
      rw [show (V.int (if (fun i j => i - j) (0 : Int) (trackBytes secs) > 0 then (fun i j => i - j) (0 : Int) (trackBytes secs) else 0)) = V.int 0 from congrArg V.int em]
      refine ⟨_, _, _, rfl, rfl, upd_same, by decide, by decide, (by show 1 * 0 ≤ sizeLine; decide), fun p2 np2 => ?_⟩
      have s5 : Same H' (upd (upd H' p (.lst [.int 78])) p2 (.lst ((List.replicate (0 : Int).toNat [V.int 78]).flatten))) := (Same.new np).trans (Same.new np2)
      refine ⟨x, l, p2, _, [], rfl, w4.mono s5, SqL.of upd_same, by decide, by omega, fun H5 b5 w5 => ?_⟩
      obtain ⟨dx5, hx5, hl5⟩ := w5
      refine ⟨_, rfl, _, _, _, _, _, rfl, hx5, W.c_Writer.cl, W.a_Writer_cells, rfl, ?_⟩
      exact q _ _ (((But.of (s4.trans s5)).trans b5).same nlH) nlH hl5
end
end KW
end

section
set_option Elab.async false
set_option linter.all false
set_option maxRecDepth 100000
set_option maxHeartbeats 4000000
/-! tracks, the reading part: mirrors, promises. -/
namespace KW
open PySem PySem.Spec PyProof.Rows L2 KR
/-! ### the mathematics -/
def Bits (l : List Int) : Prop := ∀ b ∈ l, b = 0 ∨ b = 1
def bitCode (b : Int) : Nat := if b = 1 then 49 else 48
def textOf (cells : List Int) : Str := ⟨(cells.map bitCode).toArray⟩
def markGo (t w : Str) : Nat → Int → List Int
  | 0, _ => []
  | n + 1, at' => if at' < 0 then [] else at' :: markGo t w n (Txt.find3 t w (at' + 48))
def markPlaces (cells : List Int) : List Int := markGo (textOf cells) (textOf vals_THREE_MARKS) (cells.length + 1) (Txt.find (textOf cells) (textOf vals_THREE_MARKS))
theorem textOf_len (cells : List Int) : (textOf cells).length = cells.length := by
  show ((cells.map bitCode).toArray).size = _
  rw [List.size_toArray, List.length_map]
theorem joinL_ones : ∀ l : List Nat, TL.joinL [] (l.map fun c => [c]) = l
  | [] => rfl
  | [c] => rfl
  | c :: d :: r => by
    have ih := joinL_ones (d :: r)
    show [c] ++ ([] ++ TL.joinL [] ((d :: r).map fun c => [c])) = _
    rw [ih]
    rfl
def bitStr (b : Int) : Str := ⟨#[bitCode b]⟩
theorem join_bits (cells : List Int) : Txt.join (⟨#[]⟩ : Str) (cells.map bitStr) = textOf cells := by
  have h := SX.join_S [] ((cells.map bitCode).map fun c => [c])
  rw [joinL_ones] at h
  rw [List.map_map, List.map_map] at h
  exact h
theorem toString_bit {b : Int} (h : b = 0 ∨ b = 1) : ((toString b : String) : Str) = bitStr b := by
  rcases h with rfl | rfl <;> decide +kernel
theorem find_ok (cells : List Int) (w : Str) (hw : w.length = 48) : Txt.find (textOf cells) w = -1 ∨ (0 ≤ Txt.find (textOf cells) w ∧ Txt.find (textOf cells) w + 48 ≤ cells.length ∧ Builtin.Str.subAt (textOf cells) w (Txt.find (textOf cells) w).toNat = true) := by
  unfold Txt.find
  have h := StrLaws.occ_spec (textOf cells) w 0 (textOf cells).length 1
  cases e : Builtin.Str.occurrences (textOf cells) w 0 (textOf cells).length 1 with
  | nil => exact .inl rfl
  | cons i r =>
    rw [e] at h
    obtain ⟨h1, h2⟩ := h i (List.mem_cons_self ..)
    rw [textOf_len, hw] at h1
    exact .inr ⟨Int.natCast_nonneg _, by show (i : Int) + 48 ≤ _; omega, h2⟩
theorem find3_ok (cells : List Int) (w : Str) (hw : w.length = 48) {at' : Int} (h0 : 0 ≤ at') : Txt.find3 (textOf cells) w at' = -1 ∨ (at' ≤ Txt.find3 (textOf cells) w at' ∧ Txt.find3 (textOf cells) w at' + 48 ≤ cells.length ∧ Builtin.Str.subAt (textOf cells) w (Txt.find3 (textOf cells) w at').toNat = true) := by
  unfold Txt.find3
  have h := StrLaws.occ_spec (textOf cells) w (fromIndex (textOf cells).length at') (textOf cells).length 1
  have hc := StrLaws.occ_chainTo (textOf cells) w (textOf cells).length 1 (fromIndex (textOf cells).length at') (List.range' (fromIndex (textOf cells).length at') ((textOf cells).length + 1 - fromIndex (textOf cells).length at')) (#[], fromIndex (textOf cells).length at') rfl
  rw [StrLaws.occ_eq] at h ⊢
  revert h hc
  generalize (forIn (List.range' (fromIndex (textOf cells).length at') ((textOf cells).length + 1 - fromIndex (textOf cells).length at')) (#[], fromIndex (textOf cells).length at') (StrLaws.occBody (textOf cells) w (textOf cells).length 1)).run = st
  intro h hc
  cases e : st.fst.toList with
  | nil => exact .inl rfl
  | cons i r =>
    rw [e] at h hc
    obtain ⟨h1, h2⟩ := h i (List.mem_cons_self ..)
    have h3 : fromIndex (textOf cells).length at' ≤ i := hc.1
    have h4 : fromIndex (textOf cells).length at' = at'.toNat := by
      unfold fromIndex
      rw [if_neg (by omega)]
      omega
    rw [textOf_len, hw] at h1
    exact .inr ⟨by show at' ≤ (i : Int); omega, by show (i : Int) + 48 ≤ _; omega, h2⟩
def bytesAt (cells : List Int) (pl n : Int) : Option (List Int × List Int) :=
  if (((cells.drop pl.toNat).take (16 * n.toNat)).length : Int) < 16 * n then none
  else some (wholeBytes (odds ((cells.drop pl.toNat).take (16 * n.toNat))), faultsOf 1 ((cells.drop pl.toNat).take (16 * n.toNat)))
def isChecked (vs : List Int) : Bool := decide (twoBytes (crcI ([161, 161, 161] ++ vs.take (vs.length - 2))) = vs.drop (vs.length - 2))
def dataBehind (cells : List Int) (pl z : Int) : Option (List Int × Bool) :=
  (bytesAt cells (pl + 48) (dataLen z + 3)).map fun p => ((p.1.drop (min 1 p.1.length)).take (p.1.length - 2 - min 1 p.1.length), isChecked p.1 && decide (p.2.length = 0))
def firstByte (cells : List Int) (pl : Int) : Option Int := (bytesAt cells (pl + 48) 1).map fun p => p.1.getD 0 0
/-- what is found of a sector -/
structure FdD where
  place : Int
  adr : List Int
  ok : Bool
  data : Option (List Int)
  dok : Bool
  deriving DecidableEq
/-- a finder -/
structure FiD where
  found : List FdD
  op : Bool
  en : Int
def takeAddr (cells : List Int) (st : FiD) (pl : Int) : FiD := match bytesAt cells (pl + 48) 7 with
  | none => st
  | some p => ⟨st.found ++ [⟨pl, (p.1.drop 1).take 4, isChecked p.1, none, false⟩], true, pl + 48 + 112⟩
def withData (l : FdD) (b : List Int × Bool) : FdD := ⟨l.place, l.adr, l.ok, some b.1, b.2⟩
def takeData (cells : List Int) (st : FiD) (pl : Int) : FiD := match st.found.getLast? with
  | none => st
  | some l => if l.adr.getD 3 0 ≤ 5 then (match dataBehind cells pl (l.adr.getD 3 0) with
    | none => st
    | some b => ⟨st.found.dropLast ++ [withData l b], st.op, st.en⟩) else st
def lookD (cells : List Int) (st : FiD) (pl : Int) : FiD :=
  if firstByte cells pl = some 254 then takeAddr cells ⟨st.found, false, st.en⟩ pl
  else if firstByte cells pl = some 251 ∧ st.op = true ∧ 0 ≤ pl - st.en ∧ pl - st.en ≤ 960 then takeData cells ⟨st.found, false, st.en⟩ pl
  else ⟨st.found, false, st.en⟩
def foundSectors (cells : List Int) : List FdD := ((markPlaces cells).foldl (lookD cells) ⟨[], false, 0⟩).found
def AdrOk (a : List Int) : Prop := a.length = 4 ∧ ∀ n ∈ a, 0 ≤ n ∧ n ≤ 255
def FiOk (st : FiD) : Prop := (st.op = true → st.found ≠ []) ∧ ∀ f ∈ st.found, AdrOk f.adr
theorem bitsByte_go : ∀ (l : List Int) (a : Int), Bits l → 0 ≤ a → 0 ≤ l.foldl (fun a b => 2 * a + b) a ∧ l.foldl (fun a b => 2 * a + b) a < (a + 1) * 2 ^ l.length
  | [], a, _, h => by simp; omega
  | b :: l, a, hb, h => by
    have h1 : b = 0 ∨ b = 1 := hb b (List.mem_cons_self ..)
    have h2 := bitsByte_go l (2 * a + b) (fun x hx => hb x (List.mem_cons_of_mem _ hx)) (by omega)
    rw [List.foldl_cons, List.length_cons]
    refine ⟨h2.1, Int.lt_of_lt_of_le h2.2 ?_⟩
    have h3 : (2 * a + b + 1) * 2 ^ l.length ≤ ((a + 1) * 2) * 2 ^ l.length := Int.mul_le_mul_of_nonneg_right (by omega) (Int.le_of_lt (Int.pow_pos (by decide)))
    rw [Int.mul_assoc, Int.mul_comm 2 (2 ^ l.length), ← Int.pow_succ] at h3
    exact h3
theorem bitsByte_range {l : List Int} (hb : Bits l) (h8 : l.length ≤ 8) : 0 ≤ bitsByte l ∧ bitsByte l ≤ 255 := by
  have h := bitsByte_go l 0 hb (Int.le_refl _)
  unfold bitsByte
  refine ⟨h.1, ?_⟩
  have h2 : (0 + 1) * (2 : Int) ^ l.length ≤ 2 ^ 8 := by
    rw [Int.zero_add, Int.one_mul]
    exact (by decide : ∀ n, n ≤ 8 → (2 : Int) ^ n ≤ 2 ^ 8) _ h8
  omega
theorem odds_mem {α : Type} : ∀ {l : List α} {x : α}, x ∈ odds l → x ∈ l
  | [], x, h => by cases h
  | [_], x, h => by cases h
  | a :: b :: r, x, h => by
    have h' : x ∈ b :: odds r := h
    rcases List.mem_cons.mp h' with rfl | h2
    · exact List.mem_cons_of_mem _ (List.mem_cons_self ..)
    · exact List.mem_cons_of_mem _ (List.mem_cons_of_mem _ (odds_mem h2))
theorem wholeBytes_range {l : List Int} (hb : Bits l) : ∀ v ∈ wholeBytes l, 0 ≤ v ∧ v ≤ 255 := fun v hv => by
  obtain ⟨k, _, rfl⟩ := List.mem_map.mp hv
  exact bitsByte_range (fun x hx => hb x (List.mem_of_mem_drop (List.mem_of_mem_take hx))) (by rw [List.length_take]; omega)
theorem bytesAt_some {cells : List Int} {pl n : Int} {v f : List Int} (hb : Bits cells) (hn : 0 ≤ n) (h : bytesAt cells pl n = some (v, f)) : (v.length : Int) = n ∧ ∀ x ∈ v, 0 ≤ x ∧ x ≤ 255 := by
  unfold bytesAt at h
  split at h
  · cases h
  · next hlen =>
    have e := Option.some.inj h
    have e1 := (Prod.mk.inj e).1
    rw [← e1]
    refine ⟨?_, wholeBytes_range fun x hx => hb x (List.mem_of_mem_drop (List.mem_of_mem_take (odds_mem hx)))⟩
    rw [wholeBytes_len, odds_len]
    have h1 := List.length_take_le (16 * n.toNat) (cells.drop pl.toNat)
    omega
theorem takeAddr_ok {cells : List Int} {st : FiD} {pl : Int} (hb : Bits cells) (h : FiOk st) : FiOk (takeAddr cells st pl) := by
  unfold takeAddr
  cases e : bytesAt cells (pl + 48) 7 with
  | none => exact h
  | some p =>
    obtain ⟨v, f⟩ := p
    obtain ⟨h1, h2⟩ := bytesAt_some hb (by decide) e
    refine ⟨fun _ z => by simp at z, fun g hg => ?_⟩
    rcases List.mem_append.mp hg with hg | hg
    · exact h.2 g hg
    · rw [List.mem_singleton] at hg
      subst hg
      refine ⟨?_, fun n hn => h2 n (List.mem_of_mem_drop (List.mem_of_mem_take hn))⟩
      show ((v.drop 1).take 4).length = 4
      rw [List.length_take, List.length_drop]
      omega
theorem takeData_ok {cells : List Int} {st : FiD} {pl : Int} (h : FiOk st) : FiOk (takeData cells st pl) := by
  unfold takeData
  split
  · exact h
  · next l hl =>
    split
    · split
      · exact h
      · next b hb =>
        refine ⟨fun _ z => by simp at z, fun g hg => ?_⟩
        rcases List.mem_append.mp hg with hg | hg
        · exact h.2 g ((List.dropLast_sublist _).subset hg)
        · rw [List.mem_singleton] at hg
          subst hg
          exact h.2 l (List.mem_of_getLast? hl)
    · exact h
theorem lookD_ok {cells : List Int} {st : FiD} {pl : Int} (hb : Bits cells) (h : FiOk st) : FiOk (lookD cells st pl) := by
  have h0 : FiOk ⟨st.found, false, st.en⟩ := ⟨(by intro z; cases z), h.2⟩
  unfold lookD
  split
  · exact takeAddr_ok hb h0
  · split
    · exact takeData_ok h0
    · exact h0
theorem look_all {cells : List Int} (hb : Bits cells) : ∀ (l : List Int) (st : FiD), FiOk st → FiOk (l.foldl (lookD cells) st)
  | [], _, h => h
  | pl :: l, st, h => look_all hb l _ (lookD_ok hb h)
theorem found_adr {cells : List Int} (hb : Bits cells) : ∀ f ∈ foundSectors cells, AdrOk f.adr := (look_all hb _ _ ⟨(by intro z; cases z), (by intro f hf; cases hf)⟩).2
end KW
end

section
set_option Elab.async false
set_option linter.all false
set_option maxRecDepth 100000
set_option maxHeartbeats 4000000
/-! tracks, the reading part: promises. -/
namespace KW
open PySem PySem.Spec PyProof.Rows L2 KR
section
variable {P : Program} {w : World} {K : PySem.W.Frag} {mg : Str → Option Value} {base : Heap}
theorem sum_ones (cells : List Int) : ((cells.map bitStr).map (·.length)).sum = cells.length := by
  induction cells with
  | nil => rfl
  | cons b r ih =>
    rw [List.map_cons, List.map_cons, List.sum_cons, ih, List.length_cons]
    show 1 + r.length = _
    omega
theorem log_bit {b : Int} (h : b = 0 ∨ b = 1) : b.natAbs.log2 < 1920 := by rcases h with rfl | rfl <;> decide
theorem empty_str : ((Str.ofString "") : Str) = ⟨#[]⟩ := by decide +kernel
def sp_mark_places (K : PySem.W.Frag) : Sp := fun vs H Q _ => ∃ a cells, vs = [.ref a] ∧ SqL K H a (cells.map V.int) ∧ Bits cells ∧ cells.length ≤ 100000 ∧ NewI H Q (markPlaces cells)
abbrev N_mark_places : List Str := ["cells", "text", "wanted", "found", "at", "bit"]
theorem sc_mark_places : FnScope N_mark_places ["cells"] (defScope s_mark_places) := ⟨rfl, rfl, rfl, by decide +kernel, rfl, by decide +kernel, by decide +kernel⟩
theorem ok_mark_places (W : T K mg) : Ok P w K mg base (1) "mark_places" ["cells"] (sp_mark_places K) := by
  refine W.f_mark_places.F.ok sc_mark_places (fun vs H Q E h => ?_) (fun cdv A outer s H vs Q E hr h => ?_)
  · obtain ⟨a, cells, rfl, _⟩ := h
    rfl
  · obtain ⟨a, cells, rfl, hl, hb, hz, q⟩ := h
    refine ⟨_, PSs.nox ((pss_cons
       (ps_set (i := 1) sc_mark_places.nd rfl (Or.inl rfl) (pe_join pe_str (pe_lc (own := [("bit", 5)]) rfl sc_mark_places.nd (pi_list (pv 0)) (blkOk_by (own := [("bit", 5)]) (N := N_mark_places) (sc := defScope s_mark_places) (by decide +kernel)) (fun _ _ _ _ _ => (pg_name (i := 5) sc_mark_places.nd rfl (Or.inl rfl))) (fun _ _ _ _ _ => pts_nil) (fun _ _ _ _ _ => (pe_callTy call_str_int (by rfl) W.n_str (by decide +kernel) (pa_cons (pv 5) pa_nil))))))
       (pss_cons
       (ps_set (i := 2) sc_mark_places.nd rfl (Or.inl rfl) (pe_join pe_str (pe_lc (own := [("bit", 5)]) rfl sc_mark_places.nd (pi_tup (pgT W.T_THREE_MARKS)) (blkOk_by (own := [("bit", 5)]) (N := N_mark_places) (sc := defScope s_mark_places) (by decide +kernel)) (fun _ _ _ _ _ => (pg_name (i := 5) sc_mark_places.nd rfl (Or.inl rfl))) (fun _ _ _ _ _ => pts_nil) (fun _ _ _ _ _ => (pe_callTy call_str_int (by rfl) W.n_str (by decide +kernel) (pa_cons (pv 5) pa_nil))))))
       (pss_cons
       (ps_set (i := 3) sc_mark_places.nd rfl (Or.inl rfl) (pe_lst pa_nil))
       (pss_cons
       (ps_set (i := 4) sc_mark_places.nd rfl (Or.inl rfl) (pe_bm PySem.F.plainAttrs_str PySem.F.slot_str_find PySem.F.type_str_find mt_find (pv 1) (pa_cons (pv 2) pa_nil)))
       (pss_cons
       (ps_while PassesOwn.never (pt_cmpR op_ge (pv 4) pe_int (nomark _)) (pss_cons
       (ps_expr (pe_bm PySem.F.plainAttrs_list PySem.F.slot_list_append PySem.F.type_list_append mt_append (pv 3) (pa_cons (pv 4) pa_nil)))
       (pss_one
       (ps_set (i := 4) sc_mark_places.nd rfl (Or.inl rfl) (pe_bm PySem.F.plainAttrs_str PySem.F.slot_str_find PySem.F.type_str_find mt_find3 (pv 1) (pa_cons (pv 2) (pa_cons (pe_op op_add (pv 4) (pe_callB call_len_str (by rfl) W.n_len (by decide +kernel) (pa_cons (pv 2) pa_nil))) pa_nil)))))))
       (pss_one
       (ps_ret (pv 3))))))))), ?_⟩
    refine ⟨⟨_, rfl⟩, _, rfl, _, rfl, ⟨_, hl⟩, fun D nD => ?_⟩
    refine lcL_map cells V.int (fun b => V.str (bitStr b)) hl (by show _ ≤ 16777216; omega) nD (fun b H1 k hm s hk => ⟨rfl, _, rfl, _, rfl, log_bit (hb b hm), ?_⟩) fun H1 s1 hD => ?_
    · show k (.str ((toString b : String) : Str)) H1
      rw [toString_bit (hb b hm)]
      exact hk _ (Same.refl _)
    refine ⟨_, D, cells.map bitStr, rfl, rfl, .inl (SqL.of (by rw [hD, List.map_map]; rfl)), ?_, ?_⟩
    · rw [sum_ones, List.length_map, empty_str]
      show cells.length + cells.length * 0 ≤ 16777216
      omega
    rw [empty_str, join_bits]
    refine ⟨⟨_, rfl⟩, _, rfl, ⟨_, W.T_THREE_MARKS.2.sqT H1⟩, fun D2 nD2 => ?_⟩
    have hb3 : Bits vals_THREE_MARKS := by
      unfold Bits
      decide
    refine lcT_map vals_THREE_MARKS V.int (fun b => V.str (bitStr b)) (W.T_THREE_MARKS.2.sqT H1) (by show 48 ≤ 16777216; decide) nD2 (fun b H2 k hm s hk => ⟨rfl, _, rfl, _, rfl, log_bit (hb3 b hm), ?_⟩) fun H2 s2 hD2 => ?_
    · show k (.str ((toString b : String) : Str)) H2
      rw [toString_bit (hb3 b hm)]
      exact hk _ (Same.refl _)
    refine ⟨_, D2, vals_THREE_MARKS.map bitStr, rfl, rfl, .inl (SqL.of (by rw [hD2, List.map_map]; rfl)), ?_, ?_⟩
    · rw [sum_ones, List.length_map]
      show 48 + 48 * 0 ≤ 16777216
      decide
    rw [join_bits]
    have hw : (textOf vals_THREE_MARKS).length = 48 := by rw [textOf_len]; rfl
    refine ⟨Nat.zero_le _, fun o no => ?_⟩
    have s3 : Same H (upd H2 o (.lst [])) := (s1.trans s2).trans (Same.new no)
    have noH : H o = none := (s1.trans s2).free no
    have hf := find_ok cells (textOf vals_THREE_MARKS) hw
    refine ⟨_, rfl, rfl, _, rfl, _, _, rfl, rfl, ?_⟩
    have hinit : markPlaces cells = markGo (textOf cells) (textOf vals_THREE_MARKS) (cells.length + 1) (Txt.find (textOf cells) (textOf vals_THREE_MARKS)) := rfl
    have hf2 : Txt.find (textOf cells) (textOf vals_THREE_MARKS) = -1 ∨ (0 ≤ Txt.find (textOf cells) (textOf vals_THREE_MARKS) ∧ Txt.find (textOf cells) (textOf vals_THREE_MARKS) + 48 ≤ cells.length) := hf.imp_right fun z => ⟨z.1, z.2.1⟩
    revert hinit hf2
    generalize Txt.find (textOf cells) (textOf vals_THREE_MARKS) = at0
    intro hinit hf2
    clear hf
    refine ⟨fun m σ H' => ∃ (at' : Int) (n : Nat) (acc : List Int) (y : Option V), σ = [some (.ref a), some (.str (textOf cells)), some (.str (textOf vals_THREE_MARKS)), some (.ref o), some (.int at'), y] ∧
      Same H H' ∧ H' o = some (.lst (acc.map V.int)) ∧ markPlaces cells = acc ++ markGo (textOf cells) (textOf vals_THREE_MARKS) n at' ∧ (at' = -1 ∨ (0 ≤ at' ∧ at' + 48 ≤ cells.length)) ∧ (cells.length : Int) + 1 ≤ at' + n + (if at' < 0 then cells.length + 2 else 0) ∧
      m = (if at' < 0 then 0 else (cells.length + 1 - at').toNat) ∧ acc.length + m ≤ cells.length + 1, ⟨_, at0, cells.length + 1, [], none, rfl, s3, upd_same, hinit, hf2, ?_, rfl, ?_⟩, ?_⟩
    · split <;> omega
    · show 0 + _ ≤ _
      split <;> omega
    rintro m σ H' ⟨at', n, acc, y, rfl, s, ho, hm, hat, hn, hme, hacc⟩
    refine ⟨_, rfl, _, _, rfl, rfl, _, rfl, ite2 (fun hc => ?_) fun hc => ?_⟩
    · have hc' : 0 ≤ at' := of_decide_eq_true hc
      have hat' : at' + 48 ≤ cells.length := by omega
      rw [if_neg (by omega)] at hn hme
      obtain ⟨n, rfl⟩ : ∃ n', n = n' + 1 := ⟨n - 1, by omega⟩
      refine ⟨fun σ' H2 => ∃ (at' : Int) (n : Nat) (acc : List Int) (y : Option V), σ' = [some (.ref a), some (.str (textOf cells)), some (.str (textOf vals_THREE_MARKS)), some (.ref o), some (.int at'), y] ∧
        Same H H2 ∧ H2 o = some (.lst (acc.map V.int)) ∧ markPlaces cells = acc ++ markGo (textOf cells) (textOf vals_THREE_MARKS) n at' ∧ (at' = -1 ∨ (0 ≤ at' ∧ at' + 48 ≤ cells.length)) ∧ (cells.length : Int) + 1 ≤ at' + n + (if at' < 0 then cells.length + 2 else 0) ∧
        (if at' < 0 then 0 else (cells.length + 1 - at').toNat) < m ∧ acc.length + (if at' < 0 then 0 else (cells.length + 1 - at').toNat) ≤ cells.length + 1, fun σ' H2 hN => ?_, ?_⟩
      · obtain ⟨at2, n2, acc2, y2, e, g1, g2, g3, g4, g5, g6, g7⟩ := hN
        exact ⟨_, g6, at2, n2, acc2, y2, e, g1, g2, g3, g4, g5, rfl, g7⟩
      · refine ⟨_, rfl, .inl ⟨rfl, _, SqL.of ho⟩, _, rfl, _, _, _, rfl, rfl, ho, ?_, ?_⟩
        · rw [List.length_map]
          show _ < 16777216
          omega
        · refine ⟨_, rfl, rfl, _, rfl, _, rfl, _, rfl, _, rfl, (by rw [hw]; show 48 ≤ 16777216; decide), _, _, rfl, rfl, _, _, _, rfl, rfl, ?_⟩
          have e48 : at' + (((textOf vals_THREE_MARKS).length : Nat) : Int) = at' + 48 := by rw [hw]; rfl
          have hm2 : markPlaces cells = (acc ++ [at']) ++ markGo (textOf cells) (textOf vals_THREE_MARKS) n (Txt.find3 (textOf cells) (textOf vals_THREE_MARKS) (at' + 48)) := by
            rw [hm, List.append_assoc]
            congr 1
            show (if at' < 0 then [] else _) = _
            rw [if_neg (by omega)]
            rfl
          have hf3 := find3_ok cells (textOf vals_THREE_MARKS) hw (at' := at' + 48) (by omega)
          refine ⟨Txt.find3 (textOf cells) (textOf vals_THREE_MARKS) (at' + 48), n, acc ++ [at'], y, ?_, Same.mut s noH, ?_, hm2, ?_, ?_, ?_, ?_⟩
          · show [_, _, _, _, some (V.int (Txt.find3 (textOf cells) (textOf vals_THREE_MARKS) (at' + (((textOf vals_THREE_MARKS).length : Nat) : Int)))), _] = _
            rw [e48]
          · rw [upd_same, List.map_append]
            rfl
          · rcases hf3 with e | ⟨g1, g2, _⟩
            · exact .inl e
            · exact .inr ⟨by omega, g2⟩
          · rcases hf3 with e | ⟨g1, g2, _⟩
            · rw [e, if_pos (by decide)]
              omega
            · rw [if_neg (by omega)]
              omega
          · rcases hf3 with e | ⟨g1, g2, _⟩
            · rw [e, if_pos (by decide), hme]
              omega
            · rw [if_neg (by omega), hme]
              omega
          · rw [List.length_append]
            show acc.length + 1 + _ ≤ _
            rcases hf3 with e | ⟨g1, g2, _⟩
            · rw [e, if_pos (by decide)]
              omega
            · rw [if_neg (by omega)]
              omega
    · have hc' : at' < 0 := by
        have h' : ¬ (0 ≤ at') := fun z => hc (decide_eq_true z)
        omega
      have e : markGo (textOf cells) (textOf vals_THREE_MARKS) n at' = [] := by
        cases n with
        | zero => rfl
        | succ n =>
          show (if at' < 0 then [] else _) = _
          rw [if_pos hc']
      rw [e, List.append_nil] at hm
      refine ⟨_, rfl, q _ _ s noH ?_⟩
      rw [hm]
      exact ho
theorem three_len (H : Hp) (a : Addr) {zs : List V} (h : SqT K H a zs) : SqT K H a zs := h
/-- none, or a pair of lists -/
def OByt : Option (List Int × List Int) → V → Hp → Prop := fun o y H => match o with
  | none => y = .non
  | some p => ∃ r a b, y = .ref r ∧ H r = some (.tup [.ref a, .ref b]) ∧ H a = some (.lst (p.1.map V.int)) ∧ H b = some (.lst (p.2.map V.int))
theorem mono_OByt : Mono OByt := fun o y H H' s h => by
  cases o with
  | none => exact h
  | some p =>
    obtain ⟨r, a, b, e, h1, h2, h3⟩ := h
    exact ⟨r, a, b, e, s _ _ h1, s _ _ h2, s _ _ h3⟩
def sp_bytes_at (K : PySem.W.Frag) : Sp := fun vs H Q _ => ∃ a cells pl n, vs = [.ref a, .int pl, .int n] ∧ SqL K H a (cells.map V.int) ∧ 0 ≤ pl ∧ 0 ≤ n ∧ n ≤ 5000 ∧ cells.length ≤ 100000 ∧
  ∀ H' y, Same H H' → OByt (bytesAt cells pl n) y H' → Q y H'
abbrev N_bytes_at : List Str := ["cells", "place", "count", "part"]
theorem sc_bytes_at : FnScope N_bytes_at ["cells", "place", "count"] (defScope s_bytes_at) := ⟨rfl, rfl, rfl, by decide +kernel, rfl, by decide +kernel, by decide +kernel⟩
theorem ok_bytes_at (W : T K mg) : Ok P w K mg base (4) "bytes_at" ["cells", "place", "count"] (sp_bytes_at K) := by
  refine W.f_bytes_at.F.ok sc_bytes_at (fun vs H Q E h => ?_) (fun cdv A outer s H vs Q E hr h => ?_)
  · obtain ⟨a, cells, pl, n, rfl, _⟩ := h
    rfl
  · obtain ⟨a, cells, pl, n, rfl, hl, h0, h1, h2, hz, q⟩ := h
    refine ⟨_, PSs.nox ((pss_cons
       (ps_set (i := 3) sc_bytes_at.nd rfl (Or.inl rfl) (pe_slice sl_list (pv 0) (po_some (pv 1)) (po_some (pe_op op_add (pv 1) (pe_op op_mul pe_int (pv 2))))))
       (pss_cons
       (ps_if (pt_cmpR op_lt (pe_callB call_len_seq (by rfl) W.n_len (by decide +kernel) (pa_cons (pv 3) pa_nil)) (pe_op op_mul pe_int (pv 2)) (nomark _)) (pss_one
       (ps_ret pe_non)) pss_nil)
       (pss_one
       (ps_ret (pe_callN (ok_read_mfm W) (hr.mono (by decide)) (by rfl) W.f_read_mfm.g W.f_read_mfm.F.kp W.f_read_mfm.bk pass0 (pa_cons (pv 3) pa_nil) (pk_cons pe_int pk_nil))))))), ?_⟩
    refine ⟨_, rfl, _, rfl, _, rfl, _, rfl, _, rfl, _, _, rfl, rfl, .inl ⟨by decide, by decide⟩, _, _, rfl, rfl, _, rfl, _, _, rfl, hl, fun p np => ?_⟩
    have e : cutV (cells.map V.int) (some pl) (some (pl + 16 * n)) = ((cells.drop pl.toNat).take (16 * n.toNat)).map V.int := by
      have e1 : pl = ((pl.toNat : Nat) : Int) := by omega
      have e2 : pl + 16 * n = ((pl.toNat + 16 * n.toNat : Nat) : Int) := by omega
      rw [e2]
      rw [show cutV (cells.map V.int) (some pl) = cutV (cells.map V.int) (some ((pl.toNat : Nat) : Int)) from by rw [← e1]]
      rw [cutV_nat (by omega), List.map_take, List.map_drop, Nat.add_sub_cancel_left]
    have hp : upd H p (.lst (cutV (cells.map V.int) (some pl) (some (pl + 16 * n)))) p = some (.lst (((cells.drop pl.toNat).take (16 * n.toNat)).map V.int)) := by rw [upd_same, e]
    have sp := Same.new (o := .lst (cutV (cells.map V.int) (some pl) (some (pl + 16 * n)))) np
    revert hp sp
    show _ → Same H (upd H p (.lst (cutV (cells.map V.int) (some pl) (some (pl + 16 * n))))) → _
    intro hp sp
    have hlen := List.length_take_le (16 * n.toNat) (cells.drop pl.toNat)
    generalize eb : bytesAt cells pl n = res at q
    unfold bytesAt at eb
    revert hp hlen eb
    generalize (cells.drop pl.toNat).take (16 * n.toNat) = part
    intro hp hlen eb
    refine ⟨_, rfl, _, _, rfl, .inl (SqL.of hp), _, rfl, _, _, rfl, rfl, .inl ⟨by decide, by decide⟩, _, _, rfl, rfl, _, rfl, ?_⟩
    rw [List.length_map]
    refine ite2 (fun hc => ?_) fun hc => ?_
    · have hc' : (part.length : Int) < 16 * n := of_decide_eq_true hc
      rw [if_pos hc'] at eb
      exact q _ _ sp (by rw [← eb]; rfl)
    · have hc' : ¬ (part.length : Int) < 16 * n := fun z => hc (decide_eq_true z)
      rw [if_neg hc'] at eb
      refine ⟨_, rfl, rfl, rfl, p, part, 1, rfl, SqL.of hp, by omega, fun H' r v f s np' hr hv hf => ?_⟩
      exact q _ _ (sp.trans s) (by rw [← eb]; exact ⟨r, v, f, rfl, hr, hv, hf⟩)
theorem cut_to2 (vs : List Int) : cutV (vs.map V.int) none (some (-2)) = (vs.take (vs.length - 2)).map V.int := by
  unfold cutV
  have e : HT.sIx (vs.map V.int).length (vs.map V.int).length (some (-2)) = vs.length - 2 := by
    rw [List.length_map]
    show (if (-2 : Int) < 0 then ((-2 : Int) + (vs.length : Int)).toNat else min ((-2 : Int)).toNat vs.length) = _
    rw [if_pos (by decide)]
    omega
  rw [e, HT.sIx_none, List.drop_zero, List.map_take]
  rfl
theorem cut_from2 (vs : List Int) : cutV (vs.map V.int) (some (-2)) none = (vs.drop (vs.length - 2)).map V.int := by
  unfold cutV
  have e : HT.sIx (vs.map V.int).length 0 (some (-2)) = vs.length - 2 := by
    rw [List.length_map]
    show (if (-2 : Int) < 0 then ((-2 : Int) + (vs.length : Int)).toNat else min ((-2 : Int)).toNat vs.length) = _
    rw [if_pos (by decide)]
    omega
  rw [e, HT.sIx_none, List.length_map, List.take_of_length_le (by rw [List.length_drop, List.length_map]; omega), List.map_drop]
theorem cut_1to2 (vs : List Int) : cutV (vs.map V.int) (some 1) (some (-2)) = ((vs.drop (min 1 vs.length)).take (vs.length - 2 - min 1 vs.length)).map V.int := by
  unfold cutV
  have e : HT.sIx (vs.map V.int).length (vs.map V.int).length (some (-2)) = vs.length - 2 := by
    rw [List.length_map]
    show (if (-2 : Int) < 0 then ((-2 : Int) + (vs.length : Int)).toNat else min ((-2 : Int)).toNat vs.length) = _
    rw [if_pos (by decide)]
    omega
  have e1 : HT.sIx (vs.map V.int).length 0 (some 1) = min 1 vs.length := by
    rw [List.length_map]
    exact HT.sIx_nat vs.length 0 1
  rw [e, e1, List.map_take, List.map_drop]
def sp_is_checked (K : PySem.W.Frag) : Sp := fun vs H Q _ => ∃ a ns, vs = [.ref a] ∧ SqL K H a (ns.map V.int) ∧ ns.length ≤ 10000 ∧ Ret H Q (.bl (isChecked ns))
abbrev N_is_checked : List Str := ["values"]
theorem sc_is_checked : FnScope N_is_checked ["values"] (defScope s_is_checked) := ⟨rfl, rfl, rfl, by decide +kernel, rfl, by decide +kernel, by decide +kernel⟩
theorem ok_is_checked (W : T K mg) : Ok P w K mg base (4) "is_checked" ["values"] (sp_is_checked K) := by
  refine W.f_is_checked.F.ok sc_is_checked (fun vs H Q E h => ?_) (fun cdv A outer s H vs Q E hr h => ?_)
  · obtain ⟨a, ns, rfl, _⟩ := h
    rfl
  · obtain ⟨a, ns, rfl, hl, hz, q⟩ := h
    refine ⟨_, PSs.nox ((pss_one
       (ps_ret (pe_cmpR (op_eqD hr.units) (pe_call (ok_two_bytes W) (hr.mono (by decide)) (by rfl) W.f_two_bytes.g W.f_two_bytes.F.kp W.f_two_bytes.b .nil pass0 (pa_cons (pe_call (ok_crc W) (hr.mono (by decide)) (by rfl) W.f_crc.g W.f_crc.F.kp W.f_crc.b .nil pass0 (pa_cons (pe_op op_cat (pe_op op_rep (pe_lst (pa_cons (pgi W.i_MARK_BYTE) pa_nil)) pe_int) (pe_slice sl_list (pv 0) po_none (po_some (pe_un un_neg pe_int)))) pa_nil)) pa_nil)) (pe_slice sl_list (pv 0) (po_some (pe_un un_neg pe_int)) po_none) (nomark _))))), ?_⟩
    refine ⟨(by show 1 ≤ sizeLine; decide), fun p np => ⟨_, _, _, rfl, rfl, upd_same, by decide, by decide, (by show 1 * 3 ≤ sizeLine; decide), fun p2 np2 => ?_⟩⟩
    have s2 : Same H (upd (upd H p (.lst [.int 161])) p2 (.lst ((List.replicate (3 : Int).toNat [V.int 161]).flatten))) := (Same.new np).trans (Same.new np2)
    refine ⟨_, rfl, _, rfl, _, rfl, _, _, rfl, s2.seq hl, fun p3 np3 => ?_⟩
    have s3 := Same.new (o := .lst (cutV (ns.map V.int) none (some (-2)))) np3
    refine ⟨_, _, _, _, rfl, rfl, s3 _ _ upd_same, upd_same, ?_, fun p4 np4 => ?_⟩
    · have h1 : (cutV (ns.map V.int) none (some (-2))).length ≤ (ns.map V.int).length := cutV_length _ _ _
      rw [List.length_map] at h1
      show 3 + (cutV (ns.map V.int) none (some (-2))).length ≤ 16777216
      omega
    have s4 := Same.new (o := .lst ((List.replicate (3 : Int).toNat [V.int 161]).flatten ++ cutV (ns.map V.int) none (some (-2)))) np4
    refine ⟨p4, [161, 161, 161] ++ ns.take (ns.length - 2), rfl, SqL.of ?_, fun H5 s5 => ⟨_, rfl, fun H6 r s6 nr hr => ?_⟩⟩
    · rw [upd_same]
      show some (HO.lst (_ ++ cutV (ns.map V.int) none (some (-2)))) = _
      rw [cut_to2, List.map_append]
      rfl
    have sall := ((((s2.trans s3).trans s4).trans s5).trans s6)
    refine ⟨_, rfl, _, rfl, _, rfl, _, _, rfl, sall.seq hl, fun p7 np7 => ?_⟩
    have s7 := Same.new (o := .lst (cutV (ns.map V.int) (some (-2)) none)) np7
    exact rEqD_lst (ns := twoBytes (crcI ([161, 161, 161] ++ ns.take (ns.length - 2)))) (ms := ns.drop (ns.length - 2)) (SqL.of (s7 _ _ hr)) (SqL.of (by
      show upd H6 p7 (.lst (cutV (ns.map V.int) (some (-2)) none)) p7 = _
      rw [upd_same, cut_from2])) (q _ (sall.trans s7))
def OBeh : Option (List Int × Bool) → V → Hp → Prop := fun o y H => match o with
  | none => y = .non
  | some p => ∃ r t, y = .ref r ∧ H r = some (.tup [.ref t, .bl p.2]) ∧ H t = some (.tup (p.1.map V.int))
def sp_data_behind (K : PySem.W.Frag) : Sp := fun vs H Q _ => ∃ a cells pl z, vs = [.ref a, .int pl, .int z] ∧ SqL K H a (cells.map V.int) ∧ Bits cells ∧ 0 ≤ pl ∧ 0 ≤ z ∧ z ≤ 5 ∧ cells.length ≤ 100000 ∧ NewO OBeh H Q (dataBehind cells pl z)
abbrev N_data_behind : List Str := ["cells", "place", "size", "count", "found", "values", "faults"]
theorem sc_data_behind : FnScope N_data_behind ["cells", "place", "size"] (defScope s_data_behind) := ⟨rfl, rfl, rfl, by decide +kernel, rfl, by decide +kernel, by decide +kernel⟩
theorem ok_data_behind (W : T K mg) : Ok P w K mg base (5) "data_behind" ["cells", "place", "size"] (sp_data_behind K) := by
  refine W.f_data_behind.F.ok sc_data_behind (fun vs H Q E h => ?_) (fun cdv A outer s H vs Q E hr h => ?_)
  · obtain ⟨a, cells, pl, z, rfl, _⟩ := h
    rfl
  · obtain ⟨a, cells, pl, z, rfl, hl, hb, h0, h1, h2, hz, q⟩ := h
    refine ⟨_, PSs.nox ((pss_cons
       (ps_set (i := 3) sc_data_behind.nd rfl (Or.inl rfl) (pe_op op_add (pe_call (ok_data_length W) (hr.mono (by decide)) (by rfl) W.f_data_length.g W.f_data_length.F.kp W.f_data_length.b .nil pass0 (pa_cons (pv 2) pa_nil)) pe_int))
       (pss_cons
       (ps_set (i := 4) sc_data_behind.nd rfl (Or.inl rfl) (pe_call (ok_bytes_at W) (hr.mono (by decide)) (by rfl) W.f_bytes_at.g W.f_bytes_at.F.kp W.f_bytes_at.b .nil pass0 (pa_cons (pv 0) (pa_cons (pe_op op_add (pv 1) (pe_callB call_len_seq (by rfl) W.n_len (by decide +kernel) (pa_cons (pgT W.T_THREE_MARKS) pa_nil))) (pa_cons (pv 3) pa_nil)))))
       (pss_cons
       (ps_if (pt_cmp (pc_isN (pv 4))) (pss_one
       (ps_ret pe_non)) pss_nil)
       (pss_cons
       (ps_asg (pv 4) (pg_tup rfl (pgs_cons (pg_name (i := 5) sc_data_behind.nd rfl (Or.inl rfl)) (pgs_cons (pg_name (i := 6) sc_data_behind.nd rfl (Or.inl rfl)) pgs_nil))))
       (pss_one
       (ps_ret (pe_tup (pa_cons (pe_callTy call_tuple_of (by rfl) W.n_tuple (by decide +kernel) (pa_cons (pe_slice sl_list (pv 5) (po_some pe_int) (po_some (pe_un un_neg pe_int))) pa_nil)) (pa_cons (pe_and (pe_call (ok_is_checked W) (hr.mono (by decide)) (by rfl) W.f_is_checked.g W.f_is_checked.F.kp W.f_is_checked.b .nil pass0 (pa_cons (pv 5) pa_nil)) (pe_one (pe_cmpR op_eq (pe_callB call_len_seq (by rfl) W.n_len (by decide +kernel) (pa_cons (pv 6) pa_nil)) pe_int (nomark _)))) pa_nil)))))))))), ?_⟩
    have hdl : 0 ≤ dataLen z + 3 ∧ dataLen z + 3 ≤ 600 := by
      have : ∀ n, n < 6 → 0 ≤ 16 * vals_POWERS_tracks.getD n 0 + 3 ∧ 16 * vals_POWERS_tracks.getD n 0 + 3 ≤ 600 := by decide
      exact this z.toNat (by omega)
    refine ⟨_, rfl, z, rfl, h1, h2, _, _, rfl, rfl, ?_⟩
    refine ⟨_, rfl, _, rfl, _, _, rfl, .inr (W.T_THREE_MARKS.2.sqT H), _, _, rfl, rfl, _, rfl, a, cells, pl + 48, dataLen z + 3, rfl, hl, by omega, hdl.1, by omega, hz, fun H1 y s1 ho => ?_⟩
    generalize eb : dataBehind cells pl z = res at q
    unfold dataBehind at eb
    cases hby : bytesAt cells (pl + 48) (dataLen z + 3) with
    | none =>
      rw [hby] at ho eb
      obtain rfl : y = .non := ho
      exact ⟨_, rfl, _, rfl, ifT (by decide) (q _ _ s1 (by rw [← eb]; rfl))⟩
    | some p =>
      obtain ⟨v, f⟩ := p
      rw [hby] at ho eb
      obtain ⟨r, va, fa, rfl, hr, hv, hf⟩ := ho
      obtain ⟨hvl, _⟩ := bytesAt_some hb hdl.1 hby
      refine ⟨_, rfl, _, rfl, ifF (by simp) ?_⟩
      refine ⟨_, rfl, r, _, rfl, SqT.of hr, rfl, _, _, rfl, _, _, rfl, rfl, ?_⟩
      refine ⟨_, rfl, _, rfl, _, rfl, _, rfl, _, _, rfl, SqL.of hv, fun p3 np3 => ?_⟩
      have s3 := Same.new (o := .lst (cutV (v.map V.int) (some 1) (some (-2)))) np3
      refine ⟨_, _, rfl, .inl ⟨SqL.of upd_same, fun t nt => ?_⟩⟩
      have s4 := Same.new (o := .tup (cutV (v.map V.int) (some 1) (some (-2)))) nt
      refine ⟨_, rfl, _, v, rfl, (s3.trans s4).seq (SqL.of hv), by omega, fun H5 s5 => ⟨_, rfl, ?_⟩⟩
      have ht5 := s5 _ _ (upd_same (H := upd H1 p3 (.lst (cutV (v.map V.int) (some 1) (some (-2))))) (a := t) (o := .tup (cutV (v.map V.int) (some 1) (some (-2)))))
      have sall := ((s1.trans s3).trans s4).trans s5
      have ntH : H t = none := (s1.trans s3).free nt
      have fin : ∀ b, b = (isChecked v && decide (f.length = 0)) → ∀ p, H5 p = none → Q (.ref p) (upd H5 p (.tup [.ref t, .bl b])) := fun b hb' p np => by
        refine q _ _ (sall.trans (Same.new np)) ?_
        rw [← eb]
        refine ⟨p, t, rfl, fresh_at (sall.free np) (by rw [upd_same, hb']), fresh_at ntH ?_⟩
        rw [upd_ne (ne_of_none ht5 np), ht5]
        show some (HO.tup (cutV (v.map V.int) (some 1) (some (-2)))) = _
        rw [cut_1to2]
      refine ite2 (fun hc => ?_) fun hc => ?_
      · refine ⟨_, rfl, _, _, rfl, .inl ((s3.trans s4).trans s5 |>.seq (SqL.of hf)), rfl, (by show 2 ≤ sizeLine; decide), fin _ ?_⟩
        rw [hc, Bool.true_and, List.length_map]
        by_cases hfl : f.length = 0
        · rw [hfl]
          rfl
        · rw [decide_eq_false hfl]
          refine decide_eq_false fun e => hfl ?_
          have e' : ((f.length : Nat) : Int) = 0 := V.int.inj e
          omega
      · refine ⟨(by show 2 ≤ sizeLine; decide), fin _ ?_⟩
        have : isChecked v = false := by
          cases hi : isChecked v
          · rfl
          · exact absurd hi hc
        rw [this]
        rfl
end
end KW
end

section
set_option Elab.async false
set_option linter.all false
set_option maxRecDepth 100000
set_option maxHeartbeats 4000000
/-! Finder, found_sectors, found_in. -/
namespace KW
open PySem PySem.Spec PyProof.Rows L2 KR
/-- the tuples stand as before -/
def Tups (H H' : Hp) : Prop := ∀ p xs, H p = some (.tup xs) → H' p = some (.tup xs)
theorem Tups.dat {H H' : Hp} (s : Tups H H') : ∀ {o : Option (List Int)} {y : V}, ODat o y H → ODat o y H'
  | none, _, h => h
  | some _, _, ⟨u, e, h⟩ => ⟨u, e, s _ _ h⟩
def OFd : FdD → V → Hp → Prop := fun f y H => ∃ p t d, y = .ref p ∧ H p = some (.tup [.int f.place, .ref t, .bl f.ok, d, .bl f.dok]) ∧ H t = some (.tup (f.adr.map V.int)) ∧ ODat f.data d H
theorem OFd.tups {H H' : Hp} {f : FdD} {y : V} (s : Tups H H') (h : OFd f y H) : OFd f y H' := by
  obtain ⟨p, t, d, e, h1, h2, h3⟩ := h
  exact ⟨p, t, d, e, s _ _ h1, s _ _ h2, s.dat h3⟩
theorem mono_OFd : Mono OFd := fun _ _ _ _ s h => OFd.tups (fun p xs e => s _ _ e) h
/-- at x and l alone something may be new -/
theorem tups_fresh {H0 H H' : Hp} (s : ∀ p xs, H0 p = none → H p = some (.tup xs) → H' p = some (.tup xs)) : Tups (fresh H0 H) (fresh H0 H') := fun p xs e => by
  have h0 : H0 p = none := fresh_none (by rw [e]; intro z; cases z)
  exact fresh_at h0 (s p xs h0 (fresh_sub _ _ e))
theorem paired_snoc {α β : Type} {R : α → β → Prop} : ∀ {xs : List α} {x : α} {ys : List β}, Paired R (xs ++ [x]) ys → ∃ ys' y, ys = ys' ++ [y] ∧ Paired R xs ys' ∧ R x y
  | [], x, _, .cons r .nil => ⟨[], _, rfl, .nil, r⟩
  | a :: xs, x, _, .cons r t => by
    obtain ⟨ys', y, rfl, h1, h2⟩ := paired_snoc t
    exact ⟨_ :: ys', y, rfl, .cons r h1, h2⟩
theorem ixN_last {n : Nat} (h : 0 < n) : ixN n (-1) = some (n - 1) := by
  unfold ixN
  rw [if_neg (by decide), if_pos (by omega)]
  congr 1
  omega
theorem set_last {α : Type} (l : List α) (a b : α) : (l ++ [a]).set l.length b = l ++ [b] := by
  rw [List.set_append_right _ _ (Nat.le_refl _), Nat.sub_self]
  rfl
theorem takeData_snoc {cells : List Int} {fs : List FdD} {l : FdD} {op : Bool} {en pl : Int} : takeData cells ⟨fs ++ [l], op, en⟩ pl = if l.adr.getD 3 0 ≤ 5 then (match dataBehind cells pl (l.adr.getD 3 0) with
    | none => ⟨fs ++ [l], op, en⟩
    | some b => ⟨fs ++ [withData l b], op, en⟩) else ⟨fs ++ [l], op, en⟩ := by
  unfold takeData
  rw [List.getLast?_append]
  show (if l.adr.getD 3 0 ≤ 5 then _ else _) = _
  rw [List.dropLast_concat]
  rfl
section
variable {P : Program} {w : World} {K : PySem.W.Frag} {mg : Str → Option Value} {base : Heap}
/-- a finder over the cells at a, its list at l; what it found is new since H0 -/
def OFiK (K : PySem.W.Frag) (H0 : Hp) (st : FiD) (cells : List Int) (x l a : Addr) (H : Hp) : Prop := ∃ dx ys, H x = some (.ins (He.ga K "Finder") dx [("cells", .ref a), ("found", .ref l), ("is_open", .bl st.op), ("end", .int st.en)]) ∧ H l = some (.lst ys) ∧
  H0 a = some (.lst (cells.map V.int)) ∧ Paired (fun e y => OFd e y (fresh H0 H)) st.found ys ∧ Same H0 H ∧ H0 x = none ∧ H0 l = none
theorem OFiK.mono {H0 : Hp} {st : FiD} {cells : List Int} {x l a : Addr} {H H' : Hp} (h : OFiK K H0 st cells x l a H) (s : Same H H') : OFiK K H0 st cells x l a H' := by
  obtain ⟨dx, ys, h1, h2, h3, h4, h5, h6, h7⟩ := h
  exact ⟨dx, ys, s _ _ h1, s _ _ h2, h3, Paired.mapP h4 fun e y z => mono_OFd _ _ _ _ (fresh_mono s) z, h5.trans s, h6, h7⟩
/-- its fields are set anew -/
theorem OFiK.fields {H0 : Hp} {st : FiD} {op : Bool} {en : Int} {cells : List Int} {x l a dx : Addr} {H : Hp} (h : OFiK K H0 st cells x l a H) (hx : ∃ fs, H x = some (.ins (He.ga K "Finder") dx fs)) :
    OFiK K H0 ⟨st.found, op, en⟩ cells x l a (upd H x (.ins (He.ga K "Finder") dx [("cells", .ref a), ("found", .ref l), ("is_open", .bl op), ("end", .int en)])) := by
  obtain ⟨dx', ys, h1, h2, h3, h4, h5, h6, h7⟩ := h
  obtain ⟨fs, hx⟩ := hx
  have hlx : l ≠ x := ne_of h2 hx (by intro z; cases z)
  refine ⟨dx, ys, upd_same, by rw [upd_ne hlx]; exact h2, h3, Paired.mapP h4 fun e y z => OFd.tups (tups_fresh fun p xs _ e => ?_) z, Same.mut h5 h6, h6, h7⟩
  rw [upd_ne (ne_of e hx (by intro z; cases z))]
  exact e
/-- its list is set anew -/
theorem OFiK.list {H0 : Hp} {st : FiD} {fs : List FdD} {cells : List Int} {x l a : Addr} {H : Hp} {ys : List V} (h : OFiK K H0 st cells x l a H) (hp : Paired (fun e y => OFd e y (fresh H0 H)) fs ys) :
    OFiK K H0 ⟨fs, st.op, st.en⟩ cells x l a (upd H l (.lst ys)) := by
  obtain ⟨dx, ys', h1, h2, h3, h4, h5, h6, h7⟩ := h
  have hlx : x ≠ l := ne_of h1 h2 (by intro z; cases z)
  refine ⟨dx, ys, by rw [upd_ne hlx]; exact h1, upd_same, h3, Paired.mapP hp fun e y z => OFd.tups (tups_fresh fun p xs _ e => ?_) z, Same.mut h5 h7, h6, h7⟩
  rw [upd_ne (ne_of e h2 (by intro z; cases z))]
  exact e
def sp_Finder_init (K : PySem.W.Frag) : Sp := fun vs H Q _ => ∃ x dx a, vs = [.ref x, .ref a] ∧ H x = some (.ins (He.ga K "Finder") dx []) ∧
  ∀ H' l, But x H H' → H l = none → l ≠ x → H' x = some (.ins (He.ga K "Finder") dx [("cells", .ref a), ("found", .ref l), ("is_open", .bl false), ("end", .int 0)]) → H' l = some (.lst []) → Q .non H'
abbrev N_Finder_init : List Str := ["self", "cells"]
theorem sc_Finder_init : FnScope N_Finder_init ["self", "cells"] (defScope s_Finder_init) := ⟨rfl, rfl, rfl, by decide +kernel, rfl, by decide +kernel, by decide +kernel⟩
theorem ok_Finder_init (W : T K mg) : OkM P w K mg base (1) "Finder" "__init__" ["self", "cells"] (sp_Finder_init K) := by
  refine W.f_Finder_init.F.ok sc_Finder_init (fun vs H Q E h => ?_) (fun cdv A outer s H vs Q E hr h => ?_)
  · obtain ⟨x, dx, a, rfl, _⟩ := h
    rfl
  · obtain ⟨x, dx, a, rfl, hx, q⟩ := h
    refine ⟨_, PSs.nox ((pss_cons
       (ps_fld (pv 0) (pv 1) rfl)
       (pss_cons
       (ps_fld (pv 0) (pe_lst pa_nil) rfl)
       (pss_cons
       (ps_fld (pv 0) pe_bl rfl)
       (pss_one
       (ps_fld (pv 0) pe_int rfl)))))), ?_⟩
    refine ⟨_, rfl, _, rfl, _, _, _, _, rfl, hx, W.c_Finder.cl, W.a_Finder_cells, (by show 0 < 1000; decide), ?_⟩
    refine ⟨Nat.zero_le _, fun l nl => ?_⟩
    have hlx : l ≠ x := by
      intro z
      rw [z, upd_same] at nl
      cases nl
    rw [upd_ne hlx] at nl
    refine ⟨_, rfl, _, _, _, _, rfl, by rw [upd_ne hlx.symm]; exact upd_same, W.c_Finder.cl, W.a_Finder_found, (by show 1 < 1000; decide), ?_⟩
    refine ⟨_, rfl, _, _, _, _, rfl, upd_same, W.c_Finder.cl, W.a_Finder_is_open, (by show 2 < 1000; decide), ?_⟩
    rw [upd_upd]
    refine ⟨_, rfl, _, _, _, _, rfl, upd_same, W.c_Finder.cl, W.a_Finder_end, (by show 3 < 1000; decide), ?_⟩
    rw [upd_upd]
    refine q _ l ?_ nl hlx upd_same (by rw [upd_ne hlx, upd_same])
    refine But.upd fun b o n e => ?_
    rw [upd_ne (ne_of_none e nl), upd_ne n]
    exact e
def optV : Option Int → V
  | none => .non
  | some i => .int i
def sp_Finder_first_byte (K : PySem.W.Frag) : Sp := fun vs H Q _ => ∃ x l a cells st pl H0, vs = [.ref x, .int pl] ∧ OFiK K H0 st cells x l a H ∧ Bits cells ∧ 0 ≤ pl ∧ cells.length ≤ 100000 ∧ Ret H Q (optV (firstByte cells pl))
abbrev N_Finder_first_byte : List Str := ["self", "place", "found"]
theorem sc_Finder_first_byte : FnScope N_Finder_first_byte ["self", "place"] (defScope s_Finder_first_byte) := ⟨rfl, rfl, rfl, by decide +kernel, rfl, by decide +kernel, by decide +kernel⟩
theorem ok_Finder_first_byte (W : T K mg) : OkM P w K mg base (5) "Finder" "first_byte" ["self", "place"] (sp_Finder_first_byte K) := by
  refine W.f_Finder_first_byte.F.ok sc_Finder_first_byte (fun vs H Q E h => ?_) (fun cdv A outer s H vs Q E hr h => ?_)
  · obtain ⟨x, l, a, cells, st, pl, H0, rfl, _⟩ := h
    rfl
  · obtain ⟨x, l, a, cells, st, pl, H0, rfl, ⟨dx, ys, h1, h2, h3, h4, h5, h6, h7⟩, hb, h0, hz, q⟩ := h
    refine ⟨_, PSs.nox ((pss_cons
       (ps_set (i := 2) sc_Finder_first_byte.nd rfl (Or.inl rfl) (pe_call (ok_bytes_at W) (hr.mono (by decide)) (by rfl) W.f_bytes_at.g W.f_bytes_at.F.kp W.f_bytes_at.b .nil pass0 (pa_cons (pe_fld (pv 0) rfl) (pa_cons (pe_op op_add (pv 1) (pe_callB call_len_seq (by rfl) W.n_len (by decide +kernel) (pa_cons (pgT W.T_THREE_MARKS) pa_nil))) (pa_cons pe_int pa_nil)))))
       (pss_cons
       (ps_if (pt_cmp (pc_isN (pv 2))) (pss_one
       (ps_ret pe_non)) pss_nil)
       (pss_one
       (ps_ret (pe_ix ix_list (pe_ix ix_tup (pv 2) pe_int (fun _ _ => rfl)) pe_int (fun _ _ => rfl))))))), ?_⟩
    refine ⟨_, rfl, _, _, _, _, _, rfl, h1, W.c_Finder.cl, W.a_Finder_cells, rfl, ?_⟩
    refine ⟨_, rfl, _, _, rfl, .inr (W.T_THREE_MARKS.2.sqT H), _, _, rfl, rfl, ?_⟩
    refine ⟨a, cells, pl + 48, 1, rfl, SqL.of (h5 _ _ h3), by omega, by decide, by decide, hz, fun H1 y s1 ho => ?_⟩
    generalize eb : firstByte cells pl = res at q
    unfold firstByte at eb
    cases hby : bytesAt cells (pl + 48) 1 with
    | none =>
      rw [hby] at ho eb
      obtain rfl : y = .non := ho
      exact ⟨_, rfl, _, rfl, ifT (by decide) (by rw [← eb] at q; exact q _ s1)⟩
    | some p =>
      obtain ⟨v, f⟩ := p
      rw [hby] at ho eb
      obtain ⟨r, va, fa, rfl, hr, hv, hf⟩ := ho
      obtain ⟨hvl, _⟩ := bytesAt_some hb (by decide) hby
      refine ⟨_, rfl, _, rfl, ifF (by simp) ?_⟩
      refine ⟨_, rfl, _, _, _, .ref va, rfl, rfl, SqT.of hr, rfl, _, _, _, .int (v.getD 0 0), rfl, rfl, SqL.of hv, atI_nat (j := 0) (at_getD (ns := v) (by omega)), ?_⟩
      rw [← eb] at q
      exact q _ s1
def sp_Finder_take_address (K : PySem.W.Frag) : Sp := fun vs H Q _ => ∃ x l a cells st pl H0, vs = [.ref x, .int pl] ∧ OFiK K H0 st cells x l a H ∧ Bits cells ∧ 0 ≤ pl ∧ cells.length ≤ 100000 ∧ st.found.length ≤ 200000 ∧
  ∀ H', OFiK K H0 (takeAddr cells st pl) cells x l a H' → Q .non H'
abbrev N_Finder_take_address : List Str := ["self", "place", "found", "values"]
theorem sc_Finder_take_address : FnScope N_Finder_take_address ["self", "place"] (defScope s_Finder_take_address) := ⟨rfl, rfl, rfl, by decide +kernel, rfl, by decide +kernel, by decide +kernel⟩
theorem ok_Finder_take_address (W : T K mg) : OkM P w K mg base (5) "Finder" "take_address" ["self", "place"] (sp_Finder_take_address K) := by
  refine W.f_Finder_take_address.F.ok sc_Finder_take_address (fun vs H Q E h => ?_) (fun cdv A outer s H vs Q E hr h => ?_)
  · obtain ⟨x, l, a, cells, st, pl, H0, rfl, _⟩ := h
    rfl
  · obtain ⟨x, l, a, cells, st, pl, H0, rfl, hfi, hb, h0, hz, hfl, q⟩ := h
    obtain ⟨dx, ys, h1, h2, h3, h4, h5, h6, h7⟩ := id hfi
    refine ⟨_, PSs.nox ((pss_cons
       (ps_set (i := 2) sc_Finder_take_address.nd rfl (Or.inl rfl) (pe_call (ok_bytes_at W) (hr.mono (by decide)) (by rfl) W.f_bytes_at.g W.f_bytes_at.F.kp W.f_bytes_at.b .nil pass0 (pa_cons (pe_fld (pv 0) rfl) (pa_cons (pe_op op_add (pv 1) (pe_callB call_len_seq (by rfl) W.n_len (by decide +kernel) (pa_cons (pgT W.T_THREE_MARKS) pa_nil))) (pa_cons pe_int pa_nil)))))
       (pss_one
       (ps_if (pt_cmp (pc_notN (pv 2))) (pss_cons
       (ps_set (i := 3) sc_Finder_take_address.nd rfl (Or.inl rfl) (pe_ix ix_tup (pv 2) pe_int (fun _ _ => rfl)))
       (pss_cons
       (ps_expr (pe_bm PySem.F.plainAttrs_list PySem.F.slot_list_append PySem.F.type_list_append mt_append (pe_fld (pv 0) rfl) (pa_cons (pe_tup (pa_cons (pv 1) (pa_cons (pe_callTy call_tuple_of (by rfl) W.n_tuple (by decide +kernel) (pa_cons (pe_slice sl_list (pv 3) (po_some pe_int) (po_some pe_int)) pa_nil)) (pa_cons (pe_call (ok_is_checked W) (hr.mono (by decide)) (by rfl) W.f_is_checked.g W.f_is_checked.F.kp W.f_is_checked.b .nil pass0 (pa_cons (pv 3) pa_nil)) (pa_cons pe_non (pa_cons pe_bl pa_nil)))))) pa_nil)))
       (pss_cons
       (ps_fld (pv 0) pe_bl rfl)
       (pss_one
       (ps_fld (pv 0) (pe_op op_add (pe_op op_add (pv 1) (pe_callB call_len_seq (by rfl) W.n_len (by decide +kernel) (pa_cons (pgT W.T_THREE_MARKS) pa_nil))) (pe_op op_mul pe_int pe_int)) rfl))))) pss_nil)))), ?_⟩
    refine ⟨_, rfl, _, _, _, _, _, rfl, h1, W.c_Finder.cl, W.a_Finder_cells, rfl, ?_⟩
    refine ⟨_, rfl, _, _, rfl, .inr (W.T_THREE_MARKS.2.sqT H), _, _, rfl, rfl, ?_⟩
    refine ⟨a, cells, pl + 48, 7, rfl, SqL.of (h5 _ _ h3), by omega, by decide, by decide, hz, fun H1 y s1 ho => ?_⟩
    have hfi1 := hfi.mono s1
    generalize eb : takeAddr cells st pl = res at q
    unfold takeAddr at eb
    cases hby : bytesAt cells (pl + 48) 7 with
    | none =>
      rw [hby] at ho eb
      obtain rfl : y = .non := ho
      exact ⟨_, rfl, _, rfl, ifF (by decide) (q _ (by rw [← eb]; exact hfi1))⟩
    | some p =>
      obtain ⟨v, f⟩ := p
      rw [hby] at ho eb
      obtain ⟨r, va, fa, rfl, hr, hv, hf⟩ := ho
      obtain ⟨hvl, _⟩ := bytesAt_some hb (by decide) hby
      refine ⟨_, rfl, _, rfl, ifT (by rfl) ?_⟩
      refine ⟨_, rfl, _, _, _, .ref va, rfl, rfl, SqT.of hr, rfl, ?_⟩
      refine ⟨_, rfl, _, _, _, _, _, rfl, s1 _ _ h1, W.c_Finder.cl, W.a_Finder_found, rfl, .inl ⟨rfl, _, SqL.of (s1 _ _ h2)⟩, ?_⟩
      refine ⟨_, rfl, _, rfl, _, rfl, _, rfl, _, _, rfl, SqL.of hv, fun p3 np3 => ?_⟩
      have s3 := Same.new (o := .lst (cutV (v.map V.int) (some 1) (some 5))) np3
      refine ⟨_, _, rfl, .inl ⟨SqL.of upd_same, fun t nt => ?_⟩⟩
      have s4 := Same.new (o := .tup (cutV (v.map V.int) (some 1) (some 5))) nt
      refine ⟨_, rfl, _, v, rfl, (s3.trans s4).seq (SqL.of hv), by omega, fun H5 s5 => ⟨(by show 5 ≤ sizeLine; decide), fun g ng => ?_⟩⟩
      have s6 := Same.new (o := .tup [.int pl, .ref t, .bl (isChecked v), .non, .bl false]) ng
      have sall := (((s1.trans s3).trans s4).trans s5).trans s6
      have e15 : cutV (v.map V.int) (some 1) (some 5) = ((v.drop 1).take 4).map V.int := by
        have := cutV_nat (xs := v.map V.int) (i := 1) (j := 5) (by decide)
        rw [List.map_take, List.map_drop]
        exact this
      have ht6 := s6 _ _ (s5 _ _ (upd_same (H := upd H1 p3 (.lst (cutV (v.map V.int) (some 1) (some 5)))) (a := t) (o := .tup (cutV (v.map V.int) (some 1) (some 5)))))
      have ntH0 : H0 t = none := h5.free ((s1.trans s3).free nt)
      have ngH0 : H0 g = none := h5.free ((((s1.trans s3).trans s4).trans s5).free ng)
      have hys := Paired.length h4
      refine ⟨_, _, _, rfl, rfl, sall _ _ h2, ?_, ?_⟩
      · show ys.length < 16777216
        omega
      have hfi6 := hfi.mono sall
      obtain ⟨dx6, ys6, g1, g2, g3, g4, g5, g6, g7⟩ := id hfi6
      have eys : ys6 = ys := by
        have e := (sall _ _ h2).symm.trans g2
        injection e with e
        injection e with e
        exact e.symm
      have hfi7 := hfi6.list (fs := st.found ++ [⟨pl, (v.drop 1).take 4, isChecked v, none, false⟩]) (ys := ys ++ [.ref g]) (by
        rw [eys] at g4
        exact Paired.snoc g4 ⟨g, t, .non, rfl, fresh_at ngH0 upd_same, fresh_at ntH0 (by rw [ht6, e15]), rfl⟩)
      obtain ⟨dx7, ys7, k1, k2, k3, k4, k5, k6, k7⟩ := id hfi7
      refine ⟨_, rfl, _, _, _, _, rfl, k1, W.c_Finder.cl, W.a_Finder_is_open, (by show 4 < 1000; decide), ?_⟩
      have hfi8 := hfi7.fields (op := true) (en := st.en) ⟨_, k1⟩
      refine ⟨_, rfl, _, _, rfl, .inr (W.T_THREE_MARKS.2.sqT _), _, _, rfl, rfl, _, _, rfl, rfl, .inl ⟨by decide, by decide⟩, _, _, rfl, rfl, _, rfl, _, _, _, _, rfl, upd_same, W.c_Finder.cl, W.a_Finder_end, (by show 4 < 1000; decide), ?_⟩
      have hfi9 := hfi8.fields (op := true) (en := pl + 48 + 112) ⟨_, upd_same⟩
      rw [← eb] at q
      exact q _ hfi9
theorem atI_snoc {ys : List V} {y : V} : atI (ys ++ [y]) (-1) = some y := atI_last ys y
def sp_Finder_take_data (K : PySem.W.Frag) : Sp := fun vs H Q _ => ∃ x l a cells st pl H0, vs = [.ref x, .int pl] ∧ OFiK K H0 st cells x l a H ∧ Bits cells ∧ 0 ≤ pl ∧ cells.length ≤ 100000 ∧ st.found ≠ [] ∧ (∀ f ∈ st.found, AdrOk f.adr) ∧
  ∀ H', OFiK K H0 (takeData cells st pl) cells x l a H' → Q .non H'
abbrev N_Finder_take_data : List Str := ["self", "place", "last", "found"]
theorem sc_Finder_take_data : FnScope N_Finder_take_data ["self", "place"] (defScope s_Finder_take_data) := ⟨rfl, rfl, rfl, by decide +kernel, rfl, by decide +kernel, by decide +kernel⟩
theorem ok_Finder_take_data (W : T K mg) : OkM P w K mg base (6) "Finder" "take_data" ["self", "place"] (sp_Finder_take_data K) := by
  refine W.f_Finder_take_data.F.ok sc_Finder_take_data (fun vs H Q E h => ?_) (fun cdv A outer s H vs Q E hr h => ?_)
  · obtain ⟨x, l, a, cells, st, pl, H0, rfl, _⟩ := h
    rfl
  · obtain ⟨x, l, a, cells, st, pl, H0, rfl, hfi, hb, h0, hz, hne, hadr, q⟩ := h
    obtain ⟨found, op, en⟩ := st
    obtain ⟨fs, lf, rfl⟩ : ∃ fs lf, found = fs ++ [lf] := ⟨found.dropLast, found.getLast hne, (List.dropLast_concat_getLast hne).symm⟩
    obtain ⟨ha4, har⟩ := hadr lf (List.mem_append_right _ (List.mem_cons_self ..))
    obtain ⟨dx, ys, h1, h2, h3, h4, h5, h6, h7⟩ := id hfi
    obtain ⟨ys', yl, rfl, hp', ⟨g, t, d, rfl, hg, ht, hd⟩⟩ := paired_snoc h4
    have hgH := fresh_sub _ _ hg
    have htH := fresh_sub _ _ ht
    refine ⟨_, PSs.nox ((pss_cons
       (ps_set (i := 2) sc_Finder_take_data.nd rfl (Or.inl rfl) (pe_ix ix_list (pe_fld (pv 0) rfl) (pe_un un_neg pe_int) (fun _ _ => rfl)))
       (pss_one
       (ps_if (pt_cmpR op_le (pe_ix ix_tup (pe_ix ix_tup (pv 2) pe_int (fun _ _ => rfl)) pe_int (fun _ _ => rfl)) (pgi W.i_GREATEST_SIZE) (nomark _)) (pss_cons
       (ps_set (i := 3) sc_Finder_take_data.nd rfl (Or.inl rfl) (pe_call (ok_data_behind W) (hr.mono (by decide)) (by rfl) W.f_data_behind.g W.f_data_behind.F.kp W.f_data_behind.b .nil pass0 (pa_cons (pe_fld (pv 0) rfl) (pa_cons (pv 1) (pa_cons (pe_ix ix_tup (pe_ix ix_tup (pv 2) pe_int (fun _ _ => rfl)) pe_int (fun _ _ => rfl)) pa_nil)))))
       (pss_one
       (ps_if (pt_cmp (pc_notN (pv 3))) (pss_one
       (ps_asg (pe_op op_catA (pe_slice sl_tupA (pv 2) po_none (po_some pe_int)) (pv 3)) (pg_sub (pe_fld (pv 0) rfl) (pe_un un_neg pe_int) set_list))) pss_nil))) pss_nil)))), ?_⟩
    refine ⟨_, rfl, _, _, _, _, _, rfl, h1, W.c_Finder.cl, W.a_Finder_found, rfl, _, rfl, _, _, _, .ref g, rfl, rfl, SqL.of h2, atI_snoc, ?_⟩
    have hz3 : lf.adr.getD 3 0 ∈ lf.adr := by
      rw [List.getD_eq_getElem?_getD, List.getElem?_eq_getElem (by omega)]
      exact List.getElem_mem _
    obtain ⟨hz0, hz255⟩ := har _ hz3
    refine ⟨_, rfl, _, _, _, .ref t, rfl, rfl, SqT.of hgH, rfl, _, _, _, .int (lf.adr.getD 3 0), rfl, rfl, SqT.of htH, atI_nat (j := 3) (at_getD (ns := lf.adr) (by omega)), _, _, rfl, rfl, _, rfl, ?_⟩
    rw [takeData_snoc] at q
    refine ite2 (fun hc => ?_) fun hc => ?_
    · have hc' : lf.adr.getD 3 0 ≤ 5 := of_decide_eq_true hc
      rw [if_pos hc'] at q
      refine ⟨_, rfl, _, _, _, _, _, rfl, h1, W.c_Finder.cl, W.a_Finder_cells, rfl, ?_⟩
      refine ⟨_, rfl, _, rfl, _, _, _, .ref t, rfl, rfl, SqT.of hgH, rfl, _, _, _, .int (lf.adr.getD 3 0), rfl, rfl, SqT.of htH, atI_nat (j := 3) (at_getD (ns := lf.adr) (by omega)), ?_⟩
      refine ⟨a, cells, pl, lf.adr.getD 3 0, rfl, SqL.of (h5 _ _ h3), hb, h0, hz0, hc', hz, fun H1 y s1 ho => ?_⟩
      have hfi1 := hfi.mono s1
      cases hby : dataBehind cells pl (lf.adr.getD 3 0) with
      | none =>
        rw [hby] at ho q
        obtain rfl : y = .non := ho
        exact ⟨_, rfl, _, rfl, ifF (by decide) (q _ hfi1)⟩
      | some b =>
        obtain ⟨bd, bok⟩ := b
        rw [hby] at ho q
        obtain ⟨r, u, rfl, hr, hu⟩ := ho
        have hrH := fresh_sub _ _ hr
        have huH := fresh_sub _ _ hu
        have hu0 : H0 u = none := h5.free (fresh_none (by rw [hu]; intro z; cases z))
        refine ⟨_, rfl, _, rfl, ifT (by rfl) ?_⟩
        refine ⟨_, rfl, _, rfl, _, _, rfl, SqT.of (s1 _ _ hgH), (by intro z; exact absurd (show (3 : Nat) = 5 from z.2) (by decide)), fun _ p3 np3 => ?_⟩
        have s3 := Same.new (o := .tup (cutV [V.int lf.place, V.ref t, V.bl lf.ok, d, V.bl lf.dok] none (some 3))) np3
        refine ⟨_, rfl, _, _, _, _, rfl, rfl, SqT.of upd_same, SqT.of (s3 _ _ hrH), (by show 5 ≤ sizeLine; decide), (by intro z; cases z), (by intro _ z; cases z), fun _ _ p4 np4 => ?_⟩
        have s4 := Same.new (o := .tup ([V.int lf.place, V.ref t, V.bl lf.ok] ++ [V.ref u, V.bl bok])) np4
        have s14 := (s1.trans s3).trans s4
        have hfi4 := hfi.mono s14
        obtain ⟨dx4, ys4, k1, k2, k3, k4, k5, k6, k7⟩ := id hfi4
        have eys : ys4 = ys' ++ [.ref g] := by
          have e := (s14 _ _ h2).symm.trans k2
          injection e with e
          injection e with e
          exact e.symm
        refine ⟨_, rfl, _, _, _, _, _, rfl, s14 _ _ h1, W.c_Finder.cl, W.a_Finder_found, rfl, _, rfl, ?_⟩
        refine ⟨_, _, _, _, rfl, rfl, s14 _ _ h2, ixN_last (by rw [List.length_append]; exact Nat.succ_pos _), ?_⟩
        have e1 : (ys' ++ [V.ref g]).length - 1 = ys'.length := by rw [List.length_append]; rfl
        rw [e1, set_last]
        have k4' := k4
        rw [eys] at k4'
        obtain ⟨ys5, y5, e5, hp5, ⟨g5, t5, d5, e6, hg5, ht5, hd5⟩⟩ := paired_snoc k4'
        obtain ⟨e7, e8⟩ := List.append_inj' e5 rfl
        subst e7
        injection e8 with e8
        subst e8
        obtain rfl := V.ref.inj e6
        have et : t5 = t := by
          have e9 := (s14 _ _ hgH).symm.trans (fresh_sub _ _ hg5)
          injection e9 with e9
          injection e9 with e9
          injection e9 with _ e9
          injection e9 with e9 _
          exact (V.ref.inj e9).symm
        subst et
        have np4H0 : H0 p4 = none := h5.free ((s1.trans s3).free np4)
        refine q _ (hfi4.list (fs := fs ++ [withData lf (bd, bok)]) (Paired.snoc hp5 ⟨p4, t5, .ref u, rfl, fresh_at np4H0 upd_same, ht5, u, rfl, fresh_at hu0 (s4 _ _ (s3 _ _ huH))⟩))
    · have hc' : ¬ lf.adr.getD 3 0 ≤ 5 := fun z => hc (decide_eq_true z)
      rw [if_neg hc'] at q
      exact q _ hfi
def sp_Finder_look (K : PySem.W.Frag) : Sp := fun vs H Q _ => ∃ x l a cells st pl H0, vs = [.ref x, .int pl] ∧ OFiK K H0 st cells x l a H ∧ Bits cells ∧ 0 ≤ pl ∧ cells.length ≤ 100000 ∧ st.found.length ≤ 200000 ∧ FiOk st ∧
  ∀ H', OFiK K H0 (lookD cells st pl) cells x l a H' → Q .non H'
abbrev N_Finder_look : List Str := ["self", "place", "first", "was_open"]
theorem sc_Finder_look : FnScope N_Finder_look ["self", "place"] (defScope s_Finder_look) := ⟨rfl, rfl, rfl, by decide +kernel, rfl, by decide +kernel, by decide +kernel⟩
theorem ok_Finder_look (W : T K mg) : OkM P w K mg base (7) "Finder" "look" ["self", "place"] (sp_Finder_look K) := by
  refine W.f_Finder_look.F.ok sc_Finder_look (fun vs H Q E h => ?_) (fun cdv A outer s H vs Q E hr h => ?_)
  · obtain ⟨x, l, a, cells, st, pl, H0, rfl, _⟩ := h
    rfl
  · obtain ⟨x, l, a, cells, st, pl, H0, rfl, hfi, hb, h0, hz, hfl, hok, q⟩ := h
    obtain ⟨dx, ys, h1, h2, h3, h4, h5, h6, h7⟩ := id hfi
    refine ⟨_, PSs.nox ((pss_cons
       (ps_set (i := 2) sc_Finder_look.nd rfl (Or.inl rfl) (pe_meth (pv 0) W.c_Finder.cl W.f_Finder_first_byte.M (ok_Finder_first_byte W) (hr.mono (by decide)) W.f_Finder_first_byte.b .nil pass0 (pa_cons (pv 1) pa_nil)))
       (pss_cons
       (ps_set (i := 3) sc_Finder_look.nd rfl (Or.inl rfl) (pe_fld (pv 0) rfl))
       (pss_cons
       (ps_fld (pv 0) pe_bl rfl)
       (pss_one
       (ps_if (pt_cmpR op_eq (pv 2) (pgi W.i_ADDRESS_BYTE) (nomark _)) (pss_one
       (ps_expr (pe_meth (pv 0) W.c_Finder.cl W.f_Finder_take_address.M (ok_Finder_take_address W) (hr.mono (by decide)) W.f_Finder_take_address.b .nil pass0 (pa_cons (pv 1) pa_nil)))) (pss_one
       (ps_if (PW.pt (pw_and (pt_cmpR op_eq (pv 2) (pgi W.i_DATA_BYTE) (nomark _)) (pw_and (pt_val (pv 3)) (pw_and1 (pt_chain op_le op_le pe_int (pe_op op_sub (pv 1) (pe_fld (pv 0) rfl)) (pgi W.i_FARTHEST)))))) (pss_one
       (ps_expr (pe_meth (pv 0) W.c_Finder.cl W.f_Finder_take_data.M (ok_Finder_take_data W) (hr.mono (by decide)) W.f_Finder_take_data.b .nil pass0 (pa_cons (pv 1) pa_nil)))) pss_nil)))))))), ?_⟩
    refine ⟨_, rfl, _, _, _, rfl, h1, rfl, _, rfl, x, l, a, cells, st, pl, H0, rfl, hfi, hb, h0, hz, fun H1 s1 => ?_⟩
    have hfi1 := hfi.mono s1
    refine ⟨_, rfl, _, _, _, _, _, rfl, s1 _ _ h1, W.c_Finder.cl, W.a_Finder_is_open, rfl, ?_⟩
    refine ⟨_, rfl, _, _, _, _, rfl, s1 _ _ h1, W.c_Finder.cl, W.a_Finder_is_open, (by show 4 < 1000; decide), ?_⟩
    have hfi2 := hfi1.fields (op := false) (en := st.en) ⟨_, s1 _ _ h1⟩
    obtain ⟨dx2, ys2, k1, k2, k3, k4, k5, k6, k7⟩ := id hfi2
    unfold lookD at q
    have hsc : scal (optV (firstByte cells pl)) (.int 254) = true ∧ scal (optV (firstByte cells pl)) (.int 251) = true := by
      cases firstByte cells pl <;> exact ⟨rfl, rfl⟩
    have hdec : ∀ n : Int, decide (optV (firstByte cells pl) = V.int n) = decide (firstByte cells pl = some n) := fun n => by
      cases firstByte cells pl with
      | none => simp [optV]
      | some i => simp [optV]
    refine ⟨_, rfl, hsc.1, _, rfl, ?_⟩
    rw [hdec]
    by_cases hA : firstByte cells pl = some 254
    · rw [if_pos hA] at q
      refine ifT (decide_eq_true hA) ?_
      refine ⟨_, rfl, _, _, _, rfl, upd_same, rfl, _, rfl, x, l, a, cells, ⟨st.found, false, st.en⟩, pl, H0, rfl, hfi2, hb, h0, hz, hfl, fun H' hf => q _ hf⟩
    · rw [if_neg hA] at q
      refine ifF (by simpa using hA) ?_
      refine ⟨_, rfl, hsc.2, _, rfl, ?_⟩
      rw [hdec]
      by_cases hB : firstByte cells pl = some 251
      · refine ifT (decide_eq_true hB) ?_
        refine ⟨_, rfl, _, rfl, ?_⟩
        cases hop : st.op with
        | false =>
          rw [if_neg (by rw [hop]; simp)] at q
          exact iteF (iteF (q _ hfi2))
        | true =>
          refine iteT ?_
          refine ⟨_, rfl, _, rfl, _, _, _, _, _, rfl, upd_same, W.c_Finder.cl, W.a_Finder_end, rfl, _, _, rfl, rfl, _, _, rfl, rfl, _, rfl, ?_⟩
          by_cases hC : 0 ≤ pl - st.en
          · refine ifT (decide_eq_true hC) ⟨_, _, rfl, rfl, _, rfl, ?_⟩
            by_cases hD : pl - st.en ≤ 960
            · rw [if_pos ⟨hB, hop, hC, hD⟩] at q
              refine ifT (decide_eq_true hD) ?_
              exact ⟨_, rfl, _, _, _, rfl, upd_same, rfl, _, rfl, x, l, a, cells, ⟨st.found, false, st.en⟩, pl, H0, rfl, hfi2, hb, h0, hz, hok.1 hop, hok.2, fun H' hf => q _ hf⟩
            · rw [if_neg (fun z => hD z.2.2.2)] at q
              exact ifF (fun z => hD (of_decide_eq_true z)) (q _ hfi2)
          · rw [if_neg (fun z => hC z.2.2.1)] at q
            exact ifF (fun z => hC (of_decide_eq_true z)) ⟨_, rfl, iteF (q _ hfi2)⟩
      · rw [if_neg (fun z => hB z.1)] at q
        exact ifF (by simpa using hB) (iteF (q _ hfi2))
theorem markGo_len (t w : Str) : ∀ (n : Nat) (at' : Int), (markGo t w n at').length ≤ n
  | 0, _ => Nat.le_refl _
  | n + 1, at' => by
    show (if at' < 0 then [] else _).length ≤ _
    split
    · exact Nat.zero_le _
    · rw [List.length_cons]
      have := markGo_len t w n (Txt.find3 t w (at' + 48))
      omega
theorem markGo_nn (t w : Str) : ∀ (n : Nat) (at' : Int), ∀ m ∈ markGo t w n at', 0 ≤ m
  | 0, _, m, h => by cases h
  | n + 1, at', m, h => by
    have h' : m ∈ (if at' < 0 then [] else at' :: markGo t w n (Txt.find3 t w (at' + 48))) := h
    split at h'
    · cases h'
    · rcases List.mem_cons.mp h' with rfl | h2
      · omega
      · exact markGo_nn t w n _ m h2
theorem look_len (cells : List Int) (st : FiD) (pl : Int) : (lookD cells st pl).found.length ≤ st.found.length + 1 := by
  unfold lookD
  split
  · unfold takeAddr
    split
    · exact Nat.le_succ _
    · rw [List.length_append]; exact Nat.le_refl _
  · split
    · unfold takeData
      split
      · exact Nat.le_succ _
      · next l hl =>
        split
        · split
          · exact Nat.le_succ _
          · rw [List.length_append, List.length_dropLast]
            show st.found.length - 1 + 1 ≤ st.found.length + 1
            omega
        · exact Nat.le_succ _
    · exact Nat.le_succ _
theorem look_all_len (cells : List Int) : ∀ (l : List Int) (st : FiD), (l.foldl (lookD cells) st).found.length ≤ st.found.length + l.length
  | [], _ => Nat.le_refl _
  | pl :: l, st => by
    have h1 := look_all_len cells l (lookD cells st pl)
    have h2 := look_len cells st pl
    rw [List.foldl_cons, List.length_cons]
    omega
theorem OFiK.start {H H1 : Hp} {cells : List Int} {x l a dx : Addr} (s : Same H H1) (hx : H1 x = some (.ins (He.ga K "Finder") dx [("cells", .ref a), ("found", .ref l), ("is_open", .bl false), ("end", .int 0)])) (hl : H1 l = some (.lst [])) (ha : H a = some (.lst (cells.map V.int))) (nx : H x = none) (nl : H l = none) :
    OFiK K H ⟨[], false, 0⟩ cells x l a H1 := ⟨dx, [], hx, hl, ha, .nil, s, nx, nl⟩
def sp_found_sectors (K : PySem.W.Frag) : Sp := fun vs H Q _ => ∃ a cells, vs = [.ref a] ∧ H a = some (.lst (cells.map V.int)) ∧ Bits cells ∧ cells.length ≤ 100000 ∧ NewO (ORow OFd) H Q (foundSectors cells)
abbrev N_found_sectors : List Str := ["cells", "finder", "place"]
theorem sc_found_sectors : FnScope N_found_sectors ["cells"] (defScope s_found_sectors) := ⟨rfl, rfl, rfl, by decide +kernel, rfl, by decide +kernel, by decide +kernel⟩
theorem ok_found_sectors (W : T K mg) : Ok P w K mg base (8) "found_sectors" ["cells"] (sp_found_sectors K) := by
  refine W.f_found_sectors.F.ok sc_found_sectors (fun vs H Q E h => ?_) (fun cdv A outer s H vs Q E hr h => ?_)
  · obtain ⟨a, cells, rfl, _⟩ := h
    rfl
  · obtain ⟨a, cells, rfl, ha, hb, hz, q⟩ := h
    refine ⟨_, PSs.nox ((pss_cons
       (ps_set (i := 1) sc_found_sectors.nd rfl (Or.inl rfl) (pe_make W.c_Finder.mk' (ok_Finder_init W) (hr.mono (by decide)) (by rfl) W.c_Finder.g W.f_Finder_init.b .nil pass0 (pa_cons (pv 0) pa_nil)))
       (pss_cons
       (ps_for PassesOwn.never rfl (pi_list (pe_call (ok_mark_places W) (hr.mono (by decide)) (by rfl) W.f_mark_places.g W.f_mark_places.F.kp W.f_mark_places.b .nil pass0 (pa_cons (pv 0) pa_nil))) (pg_name (i := 2) sc_found_sectors.nd rfl (Or.inl rfl)) (pss_one
       (ps_expr (pe_meth (pv 1) W.c_Finder.cl W.f_Finder_look.M (ok_Finder_look W) (hr.mono (by decide)) W.f_Finder_look.b .nil pass0 (pa_cons (pv 2) pa_nil)))))
       (pss_one
       (ps_ret (pe_fld (pv 1) rfl)))))), ?_⟩
    refine ⟨_, rfl, fun x dx nx nd ne => ⟨x, dx, a, rfl, upd_same, fun H1 l b1 nl hlx hx hl => ⟨rfl, ?_⟩⟩⟩
    have s1 : Same H H1 := But.made b1 nx nd
    have nlH : H l = none := (But.made But.refl nx nd : Same H _).free nl
    refine ⟨_, rfl, a, cells, rfl, SqL.of (s1 _ _ ha), hb, hz, fun H2 p s2 np hp => ⟨_, rfl, ⟨_, SqL.of hp⟩, ?_⟩⟩
    have hpx : p ≠ x := (ne_of_none hx np).symm
    have hpl : p ≠ l := (ne_of_none hl np).symm
    -- what was before the finder, and the list of marks
    obtain ⟨H0, eH0⟩ : ∃ H0, H0 = del (del H2 x) l := ⟨_, rfl⟩
    have sHH0 : Same H H0 := by
      rw [eH0]
      exact Same.del (Same.del (s1.trans s2) nx) nlH
    have sH02 : Same H0 H2 := by
      rw [eH0]
      exact del_sub.trans del_sub
    have hp0 : H0 p = some (.lst ((markPlaces cells).map V.int)) := by
      rw [eH0, del_ne hpl, del_ne hpx]
      exact hp
    have nx0 : H0 x = none := by
      rw [eH0, del_ne hlx.symm, del_same]
    have nl0 : H0 l = none := by
      rw [eH0, del_same]
    have hfi1 := OFiK.start (K := K) sH02 (s2 _ _ hx) (s2 _ _ hl) (sHH0 _ _ ha) nx0 nl0
    refine for_list (xs := (markPlaces cells).map V.int) (fun i σ H' => OFiK K H0 (((markPlaces cells).take i).foldl (lookD cells) ⟨[], false, 0⟩) cells x l a H' ∧ ∃ z, σ = [some (.ref a), some (.ref x), z]) ⟨hfi1, _, rfl⟩ (fun i σ H' _ pr => ?_) (fun i y σ H' hy pr => ?_) fun σ H' pr => ?_
    · obtain ⟨⟨_, _, _, _, _, _, s3, _⟩, _⟩ := pr
      exact SqL.of (s3 _ _ hp0)
    · obtain ⟨hfi, z, rfl⟩ := pr
      obtain ⟨m, hm, rfl⟩ := map_at hy
      rw [foldl_take _ _ hm]
      have hi : i < (markPlaces cells).length := (List.getElem?_eq_some_iff.mp hm).1
      have hml : (markPlaces cells).length ≤ cells.length + 1 := markGo_len _ _ _ _
      have hfl : (((markPlaces cells).take i).foldl (lookD cells) ⟨[], false, 0⟩).found.length ≤ 200000 := by
        have h1 := look_all_len cells ((markPlaces cells).take i) ⟨[], false, 0⟩
        rw [List.length_take] at h1
        have h2 : (([] : List FdD)).length = 0 := rfl
        simp only [h2] at h1
        omega
      have hok : FiOk (((markPlaces cells).take i).foldl (lookD cells) ⟨[], false, 0⟩) := look_all hb _ _ ⟨(by intro z; cases z), (by intro f hf; cases hf)⟩
      have hm0 : 0 ≤ m := markGo_nn _ _ _ _ m (List.mem_of_getElem? hm)
      generalize ((markPlaces cells).take i).foldl (lookD cells) ⟨[], false, 0⟩ = st at hfi hfl hok ⊢
      obtain ⟨dx3, ys3, g1, g2, g3, g4, g5, g6, g7⟩ := id hfi
      exact ⟨_, rfl, _, _, _, rfl, g1, rfl, _, rfl, x, l, a, cells, st, m, H0, rfl, hfi, hb, hm0, hz, hfl, hok, fun H4 hf4 => ⟨hf4, _, rfl⟩⟩
    · obtain ⟨hfi, z, rfl⟩ := pr
      rw [List.length_map, List.take_length] at hfi
      obtain ⟨dx3, ys3, g1, g2, g3, g4, g5, g6, g7⟩ := id hfi
      exact ⟨_, rfl, _, _, _, _, _, rfl, g1, W.c_Finder.cl, W.a_Finder_found, rfl, q _ _ (sHH0.trans g5) ⟨l, ys3, rfl, fresh_at nlH g2, Paired.mapP g4 fun e y z => mono_OFd _ _ _ _ (fresh_anti sHH0) z⟩⟩
def foundIn (reads : List RdD) (c : Int) : List (List FdD) := reads.map fun r => foundSectors (fixedCells r c)
/-- reads whose cells are few bits -/
def RdsOk (reads : List RdD) (c : Int) : Prop := reads.length ≤ 50 ∧ ∀ r ∈ reads, 0 ≤ r.rest ∧ (fixedCells r c).length ≤ 100000 ∧ Bits (fixedCells r c)
def sp_found_in (K : PySem.W.Frag) : Sp := fun vs H Q _ => ∃ y reads c, vs = [y, .int c] ∧ ORow (OReadK K) reads y H ∧ 10 ≤ c ∧ c ≤ 1000 ∧ RdsOk reads c ∧ NewO (ORow (ORow OFd)) H Q (foundIn reads c)
abbrev N_found_in : List Str := ["reads", "cell", "read"]
theorem sc_found_in : FnScope N_found_in ["reads", "cell"] (defScope s_found_in) := ⟨rfl, rfl, rfl, by decide +kernel, rfl, by decide +kernel, by decide +kernel⟩
theorem ok_found_in (W : T K mg) : Ok P w K mg base (9) "found_in" ["reads", "cell"] (sp_found_in K) := by
  refine W.f_found_in.F.ok sc_found_in (fun vs H Q E h => ?_) (fun cdv A outer s H vs Q E hr h => ?_)
  · obtain ⟨y, reads, c, rfl, _⟩ := h
    rfl
  · obtain ⟨_, reads, c, rfl, ⟨p, ys, rfl, hp, hpr⟩, h1, h2, ⟨hz, hok⟩, q⟩ := h
    refine ⟨_, PSs.nox ((pss_cons
       (ps_expr (pe_call (ok_demand_cell W) (hr.mono (by decide)) (by rfl) W.f_demand_cell.g W.f_demand_cell.F.kp W.f_demand_cell.b .nil pass0 (pa_cons (pv 1) pa_nil)))
       (pss_one
       (ps_ret (pe_lc (own := [("read", 2)]) rfl sc_found_in.nd (pi_list (pv 0)) (blkOk_by (own := [("read", 2)]) (N := N_found_in) (sc := defScope s_found_in) (by decide +kernel)) (fun _ _ _ _ _ => (pg_name (i := 2) sc_found_in.nd rfl (Or.inl rfl))) (fun _ _ _ _ _ => pts_nil) (fun _ _ _ _ _ => (pe_call (ok_found_sectors W) (hr.mono (by decide)) (by rfl) W.f_found_sectors.g W.f_found_sectors.F.kp W.f_found_sectors.b .nil pass0 (pa_cons (pe_call (ok_fixed_cells W) (hr.mono (by decide)) (by rfl) W.f_fixed_cells.g W.f_fixed_cells.F.kp W.f_fixed_cells.b .nil pass0 (pa_cons (pv 2) (pa_cons (pv 1) pa_nil))) pa_nil)))))))), ?_⟩
    refine ⟨_, rfl, _, rfl, h1, h2, ?_⟩
    refine ⟨_, rfl, _, rfl, ⟨_, SqL.of hp⟩, fun D nD => ?_⟩
    refine lcR_new (OReadK K) mono_ORead (ORow OFd) (mono_ORow mono_OFd) reads (fun r => foundSectors (fixedCells r c)) (SqL.of hp) hpr (by show _ ≤ 16777216; omega) nD (fun r x H1 k hm s ho hk => ?_) fun H1 s hD => ?_
    · obtain ⟨g1, g2, g3⟩ := hok r hm
      refine ⟨rfl, _, rfl, _, rfl, x, r, c, rfl, ho, h1, h2, g1, g2, fun H2 t s2 nt ht => ⟨t, _, rfl, ht, g3, g2, fun H3 z s3 hz3 => hk _ _ (s2.trans s3) ?_⟩⟩
      exact mono_ORow mono_OFd _ _ _ _ (fresh_anti s2) hz3
    · exact q _ _ s hD
end
end KW
end

section
set_option Elab.async false
set_option linter.all false
set_option maxRecDepth 100000
set_option maxHeartbeats 4000000
/-! protection: mirrors, promises. -/
namespace KW
open PySem PySem.Spec PyProof.Rows L2 KR
/-! ### a double comprehension over rows -/
section
variable {K : PySem.W.Frag} {a : Addr} {xs : List V} {tt1 : TT} {te : TE} {vs vs1 : List Nat} {σ : L2.St} {H1 : Hp} {D : Addr} {Qd : Hp → Prop}
theorem lc2_rows {δ ε : Type} (ia ib : Nat) (ess : List (List δ)) (I : δ → V → Hp → Prop) (O : ε → V → Hp → Prop) (sel : δ → Bool) (F : δ → ε) (mI : Mono I) (mO : Mono O)
    (hrow : Paired (fun es y => ORow I es y H1) ess xs) (hx : SqL K H1 a xs) (hz : ess.flatten.length ≤ sizeLine) (hD : H1 D = none)
    (hw : ∀ x : V, wipe ((wipe σ vs).set ia (some x)) vs = wipe σ vs) (hia : ∀ x : V, ((wipe σ vs).set ia (some x))[ia]? = some (some x))
    (hs : ∀ (r : V) (d : δ) (x : V) (H : Hp), d ∈ ess.flatten → Same H1 H → I d x H → H D ≠ none → Turn1 O sel F (gName ib) tt1 te vs1 ((wipe σ vs).set ia (some r)) H1 D d x H)
    (hd : ∀ H N ys, Same H1 N → Same N H → N D = none → H D = some (.lst ys) → Paired (fun e y => O e y N) ((ess.flatten.filter sel).map F) ys → Qd H) :
    ∃ W : Nat → Nat → Hp → Prop, (∃ m, W 0 m (upd H1 D (.lst []))) ∧ ∀ i m H, W i m H →
      ((Itl K a).stop i H ∧ Qd H) ∨ ((Itl K a).go i H ∧ ∃ Nx : Hp → Prop, (∀ H', Nx H' → ∃ m', m' < m ∧ W (i + 1) m' H') ∧ ∀ x H', (Itl K a).yld i H x H' → gName ia x (wipe σ vs) H' fun σ2 H2 => wipe σ2 vs = wipe σ vs ∧ tYes σ2 H2 fun b H3 =>
        if b = true then iList K (tVar ia) σ2 H3 fun J1 H4 => ∃ W1 : Nat → Nat → Hp → Prop, (∃ m, W1 0 m H4) ∧ ∀ j k H, W1 j k H →
          (J1.stop j H ∧ Nx H) ∨ (J1.go j H ∧ ∃ Nx1 : Hp → Prop, (∀ H', Nx1 H' → ∃ k', k' < k ∧ W1 (j + 1) k' H') ∧ ∀ x H', J1.yld j H x H' → gName ib x (wipe σ2 vs1) H' fun σ3 H5 => wipe σ3 vs1 = wipe σ2 vs1 ∧ tt1 σ3 H5 fun b H6 =>
            if b = true then te σ3 H6 fun y H7 => ∃ acc, H7 D = some (.lst acc) ∧ acc.length < sizeLine ∧ Nx1 (upd H7 D (.lst (acc ++ [y]))) else Nx1 H6)
        else Nx H3) := by
  have hlen := Paired.length hrow
  refine ⟨fun i m H => m = ess.length - i ∧ i ≤ ess.length ∧ LcInv O sel F H1 D (ess.take i).flatten H, ⟨_, rfl, Nat.zero_le _, LcInv.start hD⟩, ?_⟩
  rintro i m H ⟨rfl, hi, p⟩
  obtain ⟨_, N0, _, s1, s2, _⟩ := id p
  have hseq : SqL K H a xs := (s1.trans s2).seq hx
  by_cases hlt : i < ess.length
  · refine .inr ⟨⟨xs, xs[i]'(by omega), hseq, List.getElem?_eq_getElem (by omega)⟩, fun H' => LcInv O sel F H1 D (ess.take (i + 1)).flatten H', fun H' q => ⟨ess.length - (i + 1), by omega, rfl, by omega, q⟩, fun x H' y => ?_⟩
    obtain ⟨rfl, hy⟩ := y
    have hxi := hy xs hseq
    obtain ⟨es, hes, ⟨r, ys, rfl, hr, hpr⟩⟩ := paired_get' hrow hxi
    have hesl := Paired.length hpr
    have htk : (ess.take (i + 1)).flatten = (ess.take i).flatten ++ es := by
      rw [take_more hes, List.flatten_append]
      simp
    have hall : ess.flatten = (ess.take i).flatten ++ es ++ (ess.drop (i + 1)).flatten := by
      rw [← htk, ← List.flatten_append, List.take_append_drop]
    refine ⟨hw _, ?_⟩
    refine iteT (B := LcInv O sel F H1 D (ess.take (i + 1)).flatten H') ?_
    refine ⟨_, hia _, r, rfl, ⟨_, SqL.of ((s1.trans s2) _ _ hr)⟩, ?_⟩
    refine ⟨fun j k H => k = es.length - j ∧ j ≤ es.length ∧ LcInv O sel F H1 D ((ess.take i).flatten ++ es.take j) H, ⟨_, rfl, Nat.zero_le _, by rw [List.take_zero, List.append_nil]; exact p⟩, ?_⟩
    rintro j k H2 ⟨rfl, hj, p2⟩
    obtain ⟨_, N1, _, t1, t2, _⟩ := id p2
    have hseq2 : SqL K H2 r ys := SqL.of ((t1.trans t2) _ _ hr)
    by_cases hjl : j < es.length
    · refine .inr ⟨⟨ys, ys[j]'(by omega), hseq2, List.getElem?_eq_getElem (by omega)⟩, fun H' => LcInv O sel F H1 D ((ess.take i).flatten ++ es.take (j + 1)) H', fun H' q => ⟨es.length - (j + 1), by omega, rfl, by omega, q⟩, fun x H3 y => ?_⟩
      obtain ⟨rfl, hy2⟩ := y
      have hxj := hy2 ys hseq2
      obtain ⟨d, hd', hI⟩ := paired_get' hpr hxj
      have hdm : d ∈ ess.flatten := by
        rw [hall]
        exact List.mem_append_left _ (List.mem_append_right _ (List.mem_of_getElem? hd'))
      obtain ⟨zs, _, hzs, _⟩ := id p2
      refine LcInv.turn mO p2 ?_ (fun H' q => ?_) hD (hs _ d x H3 hdm (t1.trans t2) (mI _ _ _ _ (t1.trans t2) hI) (by rw [hzs]; intro z; cases z))
      · rw [hall] at hz
        rw [List.length_append, List.length_take]
        rw [List.length_append, List.length_append] at hz
        omega
      · rw [take_more hd', ← List.append_assoc]
        exact q
    · have e : j = es.length := by omega
      subst e
      rw [List.take_length, ← htk] at p2
      exact .inl ⟨⟨ys, hseq2, by omega⟩, p2⟩
  · have e : i = ess.length := by omega
    subst e
    rw [List.take_length] at p
    obtain ⟨ys, N, hy, t1, t2, nD, _, r⟩ := p
    exact .inl ⟨⟨xs, hseq, by omega⟩, hd H N ys t1 t2 nD hy r⟩
/-- rows in, some of them out, themselves -/
theorem lcR_sel {ε : Type} {g : TG} {tt : TT} (O : ε → V → Hp → Prop) (mO : Mono O) (es : List ε) (sel : ε → Bool) (hx : SqL K H1 a xs) (hp : Paired (fun e y => O e y H1) es xs) (hz : es.length ≤ sizeLine) (hD : H1 D = none)
    (hs : ∀ e x H (k : V → Hp → Prop) (n : Hp → Prop), e ∈ es → Same H1 H → O e x H → (sel e = true → ∀ H', Same H H' → k x H') → (sel e = false → ∀ H', Same H H' → n H') → g x (wipe σ vs) H fun σ2 H2 => wipe σ2 vs = wipe σ vs ∧ tt σ2 H2 fun b H3 => if b = true then te σ2 H3 k else n H3)
    (hd : ∀ H ys, Same H1 H → H D = some (.lst ys) → Paired (fun e y => O e y H1) (es.filter sel) ys → Qd H) :
    ∃ W : Nat → Nat → Hp → Prop, (∃ m, W 0 m (upd H1 D (.lst []))) ∧ ∀ i m H, W i m H →
      ((Itl K a).stop i H ∧ Qd H) ∨ ((Itl K a).go i H ∧ ∃ Nx : Hp → Prop, (∀ H', Nx H' → ∃ m', m' < m ∧ W (i + 1) m' H') ∧ ∀ x H', (Itl K a).yld i H x H' → g x (wipe σ vs) H' fun σ2 H2 => wipe σ2 vs = wipe σ vs ∧ tt σ2 H2 fun b H3 =>
        if b = true then te σ2 H3 fun y H4 => ∃ acc, H4 D = some (.lst acc) ∧ acc.length < sizeLine ∧ Nx (upd H4 D (.lst (acc ++ [y]))) else Nx H3) := by
  have key := lc_all (K := K) (a := a) (g := g) (tt := tt) (te := te) (vs := vs) (σ := σ) (D := D) (H1 := H1) (Qd := Qd) (xs := xs) es (fun e x H => O e x H ∧ O e x H1) (fun e x _ => O e x H1) sel id (fun e y H H' s h => ⟨mO _ _ _ _ s h.1, h.2⟩) (fun _ _ _ _ _ h => h) (Paired.mapP hp fun e y z => ⟨z, z⟩) hx (by rw [← Paired.length hp]; exact hz) hD
    (fun d x H hm s hI hn k n hk hn' => hs d x H k n hm s hI.1 (fun e H' sH => hk e _ _ sH hI.2) hn') fun H N ys s1 s2 nD hy r => ?_
  · exact key
  · rw [List.map_id] at r
    exact hd H ys (s1.trans s2) hy r
end
end KW
end

section
set_option Elab.async false
set_option linter.all false
set_option maxRecDepth 100000
set_option maxHeartbeats 4000000
/-! protection: mirrors, promises. -/
namespace KW
open PySem PySem.Spec PyProof.Rows L2 KR
/-! ### the mathematics -/
def runStep (acc : List (Int × Int)) (pl : Int) : List (Int × Int) := match acc.getLast? with
  | some r => if r.1 + r.2 = pl then acc.dropLast ++ [(r.1, r.2 + 1)] else acc ++ [(pl, 1)]
  | none => [(pl, 1)]
def weakRuns (n : Nat) (lists : List (List Int)) : List (Int × Int) := (weakPlaces n lists).foldl runStep []
theorem runStep_nil (pl : Int) : runStep [] pl = [(pl, 1)] := rfl
theorem runStep_snoc (fs : List (Int × Int)) (r : Int × Int) (pl : Int) : runStep (fs ++ [r]) pl = if r.1 + r.2 = pl then fs ++ [(r.1, r.2 + 1)] else fs ++ [r] ++ [(pl, 1)] := by
  unfold runStep
  rw [List.getLast?_append]
  show (if r.1 + r.2 = pl then _ else _) = _
  rw [List.dropLast_concat]
  rfl
theorem run_len (acc : List (Int × Int)) (pl : Int) : (runStep acc pl).length ≤ acc.length + 1 := by
  rcases List.eq_nil_or_concat acc with rfl | ⟨fs, r, rfl⟩
  · exact Nat.le_refl _
  · rw [List.concat_eq_append, runStep_snoc]
    split
    · rw [List.length_append, List.length_append]
      exact Nat.le_succ _
    · rw [List.length_append]
      exact Nat.le_refl _
theorem runs_len : ∀ (l : List Int) (acc : List (Int × Int)), (l.foldl runStep acc).length ≤ acc.length + l.length
  | [], _ => Nat.le_refl _
  | pl :: l, acc => by
    have h1 := runs_len l (runStep acc pl)
    have h2 := run_len acc pl
    rw [List.foldl_cons, List.length_cons]
    omega
theorem weakPlaces_len (n : Nat) (lists : List (List Int)) : (weakPlaces n lists).length ≤ n := by
  unfold weakPlaces
  rw [List.length_map]
  have h := List.length_filter_le (fun at' => decide (1 < distinct (lists.map fun l => l.getD at' 0))) (List.range n)
  rw [List.length_range] at h
  exact h
section
variable {P : Program} {w : World} {K : PySem.W.Frag} {mg : Str → Option Value} {base : Heap}
def O2 : Int × Int → V → Hp → Prop := fun r y H => ∃ p, y = .ref p ∧ H p = some (.tup [.int r.1, .int r.2])
theorem mono_O2 : Mono O2 := fun _ _ _ _ s ⟨p, e, h⟩ => ⟨p, e, s _ _ h⟩
theorem O2.tups {H H' : Hp} {r : Int × Int} {y : V} (s : Tups H H') (h : O2 r y H) : O2 r y H' := by
  obtain ⟨p, e, h⟩ := h
  exact ⟨p, e, s _ _ h⟩
def sp_weak_runs (K : PySem.W.Frag) : Sp := fun vs H Q _ => ∃ y lists n, vs = [y] ∧ ORow OLst lists y H ∧ Even n lists ∧ n ≤ 100000 ∧ NewO (ORow O2) H Q (weakRuns n lists)
abbrev N_weak_runs : List Str := ["lists", "found", "place"]
theorem sc_weak_runs : FnScope N_weak_runs ["lists"] (defScope s_weak_runs) := ⟨rfl, rfl, rfl, by decide +kernel, rfl, by decide +kernel, by decide +kernel⟩
theorem ok_weak_runs (W : T K mg) : Ok P w K mg base (3) "weak_runs" ["lists"] (sp_weak_runs K) := by
  refine W.f_weak_runs.F.ok sc_weak_runs (fun vs H Q E h => ?_) (fun cdv A outer s H vs Q E hr h => ?_)
  · obtain ⟨y, lists, n, rfl, _⟩ := h
    rfl
  · obtain ⟨y, lists, n, rfl, hrow, hev, hz, q⟩ := h
    refine ⟨_, PSs.nox ((pss_cons
       (ps_set (i := 1) sc_weak_runs.nd rfl (Or.inl rfl) (pe_lst pa_nil))
       (pss_cons
       (ps_for PassesOwn.never rfl (pi_list (pe_call (ok_weak_places W) (hr.mono (by decide)) (by rfl) W.f_weak_places.g W.f_weak_places.F.kp W.f_weak_places.b .nil pass0 (pa_cons (pv 0) pa_nil))) (pg_name (i := 2) sc_weak_runs.nd rfl (Or.inl rfl)) (pss_one
       (ps_if (PW.pt (pw_and (pt_cmpR op_gt (pe_callB call_len_seq (by rfl) W.n_len (by decide +kernel) (pa_cons (pv 1) pa_nil)) pe_int (nomark _)) (pw_and1 (pt_cmpR op_eq (pe_callB (cr_sumT rfl) (by rfl) W.n_sum (by decide +kernel) (pa_cons (pe_ix ix_list (pv 1) (pe_un un_neg pe_int) (fun _ _ => rfl)) pa_nil)) (pv 2) (nomark _))))) (pss_one
       (ps_asg (pe_tup (pa_cons (pe_ix ix_tup (pe_ix ix_list (pv 1) (pe_un un_neg pe_int) (fun _ _ => rfl)) pe_int (fun _ _ => rfl)) (pa_cons (pe_op op_add (pe_ix ix_tup (pe_ix ix_list (pv 1) (pe_un un_neg pe_int) (fun _ _ => rfl)) pe_int (fun _ _ => rfl)) pe_int) pa_nil))) (pg_sub (pv 1) (pe_un un_neg pe_int) set_list))) (pss_one
       (ps_expr (pe_bm PySem.F.plainAttrs_list PySem.F.slot_list_append PySem.F.type_list_append mt_append (pv 1) (pa_cons (pe_tup (pa_cons (pv 2) (pa_cons pe_int pa_nil))) pa_nil)))))))
       (pss_one
       (ps_ret (pv 1)))))), ?_⟩
    refine ⟨Nat.zero_le _, fun o no => ?_⟩
    refine ⟨_, rfl, _, lists, n, rfl, mono_ORow mono_OLst _ _ _ _ (Same.new no) hrow, hev, hz, fun H1 p s1 np hp => ⟨_, rfl, ⟨_, SqL.of hp⟩, ?_⟩⟩
    have ho1 : H1 o = some (.lst []) := s1 _ _ upd_same
    have hpo : p ≠ o := by
      intro z
      rw [z, upd_same] at np
      cases np
    have s1' : Same H H1 := (Same.new no).trans s1
    refine for_list (xs := (weakPlaces n lists).map V.int) (fun i σ H' => (∃ ys, H' o = some (.lst ys) ∧ Paired (fun e y => O2 e y (fresh H H')) (((weakPlaces n lists).take i).foldl runStep []) ys) ∧ But o H1 H' ∧ ∃ z, σ = [some y, some (.ref o), z]) ⟨⟨[], ho1, .nil⟩, But.refl, _, rfl⟩ (fun i σ H' _ pr => SqL.of (pr.2.1 _ _ hpo hp)) (fun i x σ H' hx pr => ?_) fun σ H' pr => ?_
    · obtain ⟨⟨ys, ho, hpr⟩, hb, z, rfl⟩ := pr
      obtain ⟨pl, hpl, rfl⟩ := map_at hx
      have sH : Same H H' := ((But.of s1').trans hb).same no
      have hi : i < (weakPlaces n lists).length := (List.getElem?_eq_some_iff.mp hpl).1
      have hwl := weakPlaces_len n lists
      have hlen : (((weakPlaces n lists).take i).foldl runStep []).length ≤ 100000 := by
        have h1 := runs_len ((weakPlaces n lists).take i) []
        rw [List.length_take] at h1
        have h2 : ([] : List (Int × Int)).length = 0 := rfl
        omega
      rw [foldl_take _ _ hpl]
      generalize ((weakPlaces n lists).take i).foldl runStep [] = acc at hpr hlen ⊢
      have hyl := Paired.length hpr
      -- append (place, 1)
      have app : ∀ acc', acc' = acc ++ [(pl, 1)] → ∀ (D : Ends), (∀ σ' H2, ((∃ ys, H2 o = some (.lst ys) ∧ Paired (fun e y => O2 e y (fresh H H2)) acc' ys) ∧ But o H1 H2 ∧ ∃ z, σ' = [some y, some (.ref o), z]) → D.nx σ' H2) →
          tDrop (tBM K "list" rAppend (tVar 1) (tCons (tTup (tCons (tVar 2) (tCons (tC (.int 1)) tNil))) tNil)) D [some y, some (.ref o), some (.int pl)] H' := fun acc' e D hD => by
        refine ⟨_, rfl, .inl ⟨rfl, _, SqL.of ho⟩, _, rfl, (by show 2 ≤ sizeLine; decide), fun t nt => ?_⟩
        have st := Same.new (o := .tup [.int pl, .int 1]) nt
        refine ⟨_, _, _, rfl, rfl, st _ _ ho, (by show _ < 16777216; omega), hD _ _ ⟨⟨_, upd_same, ?_⟩, But.upd (hb.step st), _, rfl⟩⟩
        rw [e]
        have hto : t ≠ o := (ne_of_none ho nt).symm
        refine Paired.snoc (Paired.mapP hpr fun e y z => O2.tups (tups_fresh fun p xs _ e => ?_) z) ⟨t, rfl, fresh_at (sH.free nt) (by rw [upd_ne hto, upd_same])⟩
        rw [upd_ne (ne_of e ho (by intro z; cases z))]
        exact st _ _ e
      refine ⟨_, rfl, _, _, rfl, .inl (SqL.of ho), _, _, rfl, rfl, _, rfl, ?_⟩
      rcases List.eq_nil_or_concat acc with rfl | ⟨fs, r, hacc⟩
      · cases hpr
        refine ifF (by decide) (iteF ?_)
        exact app _ (runStep_nil pl) _ fun σ' H2 h2 => h2
      · rw [List.concat_eq_append] at hacc
        subst hacc
        obtain ⟨ys', yl, rfl, hp', ⟨t, rfl, ht⟩⟩ := paired_snoc hpr
        have htH := fresh_sub _ _ ht
        refine ifT (decide_eq_true (by show (0 : Int) < ((ys' ++ [V.ref t]).length : Nat); rw [List.length_append]; show (0 : Int) < ((ys'.length + 1 : Nat) : Int); omega)) ?_
        refine ⟨_, rfl, _, rfl, _, _, _, .ref t, rfl, rfl, SqL.of ho, atI_snoc, t, [r.1, r.2], rfl, SqT.of htH, _, rfl, rfl, _, rfl, ?_⟩
        have esum : [r.1, r.2].sum = r.1 + r.2 := by simp
        rw [esum]
        refine ite2 (fun hc => ?_) fun hc => ?_
        · have hc' : r.1 + r.2 = pl := V.int.inj (of_decide_eq_true hc)
          refine ⟨_, rfl, _, rfl, _, _, _, .ref t, rfl, rfl, SqL.of ho, atI_snoc, _, _, _, .int r.1, rfl, rfl, SqT.of htH, rfl, ?_⟩
          refine ⟨_, rfl, _, rfl, _, _, _, .ref t, rfl, rfl, SqL.of ho, atI_snoc, _, _, _, .int r.2, rfl, rfl, SqT.of htH, rfl, _, _, rfl, rfl, (by show 2 ≤ sizeLine; decide), fun u nu => ?_⟩
          have su := Same.new (o := .tup [.int r.1, .int (r.2 + 1)]) nu
          refine ⟨_, rfl, _, rfl, _, _, _, _, rfl, rfl, su _ _ ho, ixN_last (by rw [List.length_append]; exact Nat.succ_pos _), ?_⟩
          have e1 : (ys' ++ [V.ref t]).length - 1 = ys'.length := by rw [List.length_append]; rfl
          rw [e1, set_last]
          refine ⟨⟨_, upd_same, ?_⟩, But.upd (hb.step su), _, rfl⟩
          rw [runStep_snoc, if_pos hc']
          have huo : u ≠ o := (ne_of_none ho nu).symm
          refine Paired.snoc (Paired.mapP hp' fun e y z => O2.tups (tups_fresh fun p xs _ e => ?_) z) ⟨u, rfl, fresh_at (sH.free nu) (by rw [upd_ne huo, upd_same])⟩
          rw [upd_ne (ne_of e ho (by intro z; cases z))]
          exact su _ _ e
        · have hc' : ¬ r.1 + r.2 = pl := fun z => hc (decide_eq_true (by rw [z]))
          exact app _ (by rw [runStep_snoc, if_neg hc']) _ fun σ' H2 h2 => h2
    · obtain ⟨⟨ys, ho, hpr⟩, hb, z, rfl⟩ := pr
      rw [List.length_map, List.take_length] at hpr
      have sH : Same H H' := ((But.of s1').trans hb).same no
      exact ⟨_, rfl, q _ _ sH ⟨o, ys, rfl, fresh_at no ho, hpr⟩⟩
/-! ### rows of what is found -/
theorem paired_and {α β : Type} {R S : α → β → Prop} : ∀ {xs : List α} {ys : List β}, Paired R xs ys → Paired S xs ys → Paired (fun x y => R x y ∧ S x y) xs ys
  | _, _, .nil, _ => .nil
  | _, _, .cons r t, .cons s u => .cons ⟨r, s⟩ (paired_and t u)
def goodSectors (rows : List (List FdD)) : List (List FdD) := rows.map fun row => row.filter fun f => f.ok
/-- few rows of few -/
def RowsOk (rows : List (List FdD)) : Prop := rows.length ≤ 100 ∧ (∀ row ∈ rows, row.length ≤ 200000) ∧ rows.flatten.length ≤ 10000000
def sp_good_sectors (K : PySem.W.Frag) : Sp := fun vs H Q _ => ∃ y rows, vs = [y] ∧ ORow (ORow OFd) rows y H ∧ RowsOk rows ∧ ∀ H' y, Same H H' → ORow (ORow OFd) (goodSectors rows) y H' → Q y H'
abbrev N_good_sectors : List Str := ["rows", "row", "sector"]
theorem sc_good_sectors : FnScope N_good_sectors ["rows"] (defScope s_good_sectors) := ⟨rfl, rfl, rfl, by decide +kernel, rfl, by decide +kernel, by decide +kernel⟩
theorem ok_good_sectors (W : T K mg) : Ok P w K mg base (1) "good_sectors" ["rows"] (sp_good_sectors K) := by
  refine W.f_good_sectors.F.ok sc_good_sectors (fun vs H Q E h => ?_) (fun cdv A outer s H vs Q E hr h => ?_)
  · obtain ⟨y, rows, rfl, _⟩ := h
    rfl
  · obtain ⟨_, rows, rfl, ⟨p, ys, rfl, hp, hpr⟩, ⟨hz, hz2, _⟩, q⟩ := h
    refine ⟨_, PSs.nox ((pss_one
       (ps_ret (pe_lc (own := [("row", 1)]) rfl sc_good_sectors.nd (pi_list (pv 0)) (blkOk_by (own := [("row", 1)]) (N := N_good_sectors) (sc := defScope s_good_sectors) (by decide +kernel)) (fun _ _ _ _ _ => (pg_name (i := 1) sc_good_sectors.nd rfl (Or.inl rfl))) (fun _ _ _ _ _ => pts_nil) (fun _ _ _ _ _ => (pe_lc (own := [("sector", 2)]) rfl sc_good_sectors.nd (pi_listK (K := K) rfl (pv 1)) (blkOk_by (own := [("sector", 2)]) (N := N_good_sectors) rfl) (fun _ _ _ _ _ => (pg_name (i := 2) sc_good_sectors.nd rfl (Or.inl rfl))) (fun _ _ _ _ _ => (pts_one (pt_val (pe_ix (ix_tupK (K := K) rfl) (pv 2) pe_int (fun _ _ => rfl))))) (fun _ _ _ _ _ => (pv 2)))))))), ?_⟩
    refine ⟨_, rfl, _, rfl, ⟨_, SqL.of hp⟩, fun D nD => ?_⟩
    refine lc_all rows (fun row x H' => ORow OFd row x H' ∧ ORow OFd row x H) (ORow OFd) yes (fun row => row.filter fun f => f.ok) (fun e y H H' s h => ⟨mono_ORow mono_OFd _ _ _ _ s h.1, h.2⟩) (mono_ORow mono_OFd) (Paired.mapP hpr fun e y z => ⟨z, z⟩) (SqL.of hp) (by rw [← Paired.length hpr]; show _ ≤ 16777216; omega) nD (fun row x H1 hm s1 ho hn k n hk _ => ?_) fun H1 N zs s1 s2 nN hy r => ?_
    · obtain ⟨⟨r, xs, rfl, hr, hxs⟩, ⟨r0, xs0, e0, hr0, hxs0⟩⟩ := ho
      obtain rfl := V.ref.inj e0
      have exs : xs0 = xs := by
        have e := (s1 _ _ hr0).symm.trans hr
        injection e with e
        injection e with e
      subst exs
      refine ⟨rfl, _, rfl, _, rfl, ⟨_, SqL.of hr⟩, fun D2 nD2 => ?_⟩
      have hD2 : D2 ≠ D := fun z => hn (by rw [← z]; exact nD2)
      refine lcR_sel (fun f x H' => OFd f x H' ∧ OFd f x H) (fun e y H H' s h => ⟨mono_OFd _ _ _ _ s h.1, h.2⟩) row (fun f => f.ok) (SqL.of hr) (paired_and hxs hxs0) (by have := hz2 row hm; show _ ≤ 16777216; omega) nD2 (fun f x H2 k2 n2 hm2 s2 hf hk2 hn2 => ?_) fun H2 zs s2 hzs hpz => ?_
      · obtain ⟨⟨t, ta, d, rfl, ht, hta, hd⟩, _⟩ := hf
        refine ⟨rfl, _, rfl, _, _, _, .bl f.ok, rfl, rfl, SqT.of ht, rfl, _, rfl, ?_⟩
        cases hok : f.ok with
        | true => exact iteT ⟨_, rfl, hk2 hok _ (Same.refl _)⟩
        | false => exact iteF (hn2 hok _ (Same.refl _))
      · refine hk rfl _ _ s2 ⟨D2, zs, rfl, by rw [del_ne hD2]; exact hzs, Paired.mapP hpz fun e y z => mono_OFd _ _ _ _ (Same.del (s1.trans s2) nD) z.2⟩
    · rw [filter_yes] at r
      exact q _ _ (s1.trans s2) ⟨D, zs, rfl, hy, Paired.mapP r fun e y z => mono_ORow mono_OFd _ _ _ _ s2 z⟩
def countOf (a : List Int) (row : List FdD) : Int := ((row.filter fun f => decide (f.adr = a)).length : Nat)
def maxOf : List Int → Int
  | [] => 0
  | [x] => x
  | x :: y :: r => if x ≤ maxOf (y :: r) then maxOf (y :: r) else x
theorem maxOf_mem : ∀ (x : Int) (r : List Int), maxOf (x :: r) ∈ x :: r ∧ ∀ y ∈ x :: r, y ≤ maxOf (x :: r)
  | x, [] => ⟨List.mem_cons_self .., fun y hy => by
    rcases List.mem_cons.mp hy with rfl | h
    · exact Int.le_refl _
    · cases h⟩
  | x, z :: r => by
    obtain ⟨h1, h2⟩ := maxOf_mem z r
    show (if x ≤ maxOf (z :: r) then maxOf (z :: r) else x) ∈ _ ∧ ∀ y ∈ _, y ≤ (if x ≤ maxOf (z :: r) then maxOf (z :: r) else x)
    split
    · next hle =>
      refine ⟨List.mem_cons_of_mem _ h1, fun y hy => ?_⟩
      rcases List.mem_cons.mp hy with rfl | hy
      · exact hle
      · exact h2 y hy
    · next hle =>
      refine ⟨List.mem_cons_self .., fun y hy => ?_⟩
      rcases List.mem_cons.mp hy with rfl | hy
      · exact Int.le_refl _
      · have := h2 y hy
        omega
theorem maxOf_eq {ns : List Int} {m : Int} (hm : m ∈ ns) (h : ∀ y ∈ ns, y ≤ m) : m = maxOf ns := by
  cases ns with
  | nil => cases hm
  | cons x r =>
    obtain ⟨h1, h2⟩ := maxOf_mem x r
    have a := h _ h1
    have b := h2 _ hm
    omega
def doubledOf (rows : List (List FdD)) (a : List Int) : Int := maxOf (rows.map (countOf a))
def sp_doubled (K : PySem.W.Frag) : Sp := fun vs H Q _ => ∃ y rows t a, vs = [y, .ref t] ∧ ORow (ORow OFd) rows y H ∧ RowsOk rows ∧ 0 < rows.length ∧ H t = some (.tup (a.map V.int)) ∧ Ret H Q (.int (doubledOf rows a))
abbrev N_doubled : List Str := ["rows", "address", "row", "sector"]
theorem sc_doubled : FnScope N_doubled ["rows", "address"] (defScope s_doubled) := ⟨rfl, rfl, rfl, by decide +kernel, rfl, by decide +kernel, by decide +kernel⟩
theorem ok_doubled (W : T K mg) : Ok P w K mg base (1) "doubled" ["rows", "address"] (sp_doubled K) := by
  refine W.f_doubled.F.ok sc_doubled (fun vs H Q E h => ?_) (fun cdv A outer s H vs Q E hr h => ?_)
  · obtain ⟨y, rows, t, a, rfl, _⟩ := h
    rfl
  · obtain ⟨_, rows, t, a, rfl, ⟨p, ys, rfl, hp, hpr⟩, ⟨hz, hz2, _⟩, hne, ht, q⟩ := h
    refine ⟨_, PSs.nox ((pss_one
       (ps_ret (pe_callB (cr_max rfl) (by rfl) W.n_max (by decide +kernel) (pa_cons (pe_lc (own := [("row", 2)]) rfl sc_doubled.nd (pi_list (pv 0)) (blkOk_by (own := [("row", 2)]) (N := N_doubled) (sc := defScope s_doubled) (by decide +kernel)) (fun _ _ _ _ _ => (pg_name (i := 2) sc_doubled.nd rfl (Or.inl rfl))) (fun _ _ _ _ _ => pts_nil) (fun _ _ _ _ _ => (pe_callB (call_len_seqK (K := K) rfl) (by rfl) W.n_len (by decide +kernel) (pa_cons (pe_lc (own := [("sector", 3)]) rfl sc_doubled.nd (pi_listK (K := K) rfl (pv 2)) (blkOk_by (own := [("sector", 3)]) (N := N_doubled) rfl) (fun _ _ _ _ _ => (pg_name (i := 3) sc_doubled.nd rfl (Or.inl rfl))) (fun _ _ _ _ _ => (pts_one (pt_cmpR (op_eqDK (K := K) rfl hr.units) (pe_ix (ix_tupK (K := K) rfl) (pv 3) pe_int (fun _ _ => rfl)) (pv 1) (nomark _)))) (fun _ _ _ _ _ => (pv 3))) pa_nil)))) pa_nil))))), ?_⟩
    refine ⟨_, rfl, _, rfl, ⟨_, SqL.of hp⟩, fun D nD => ?_⟩
    refine lcR_map (ORow OFd) (mono_ORow mono_OFd) rows (fun row => V.int (countOf a row)) (SqL.of hp) hpr (by show _ ≤ 16777216; omega) nD (fun row x H1 k hm s1 ho hk => ?_) fun H1 s1 hD => ?_
    · obtain ⟨r, xs, rfl, hr, hxs⟩ := ho
      refine ⟨rfl, _, rfl, _, rfl, ⟨_, SqL.of hr⟩, fun D2 nD2 => ?_⟩
      refine lcR_sel OFd mono_OFd row (fun f => decide (f.adr = a)) (SqL.of hr) hxs (by have := hz2 row hm; show _ ≤ 16777216; omega) nD2 (fun f x H2 k2 n2 hm2 s2 hf hk2 hn2 => ?_) fun H2 zs s2 hzs hpz => ?_
      · obtain ⟨u, ta, d, rfl, hu, hta, hd⟩ := hf
        refine ⟨rfl, _, rfl, _, _, _, .ref ta, rfl, rfl, SqT.of hu, rfl, _, rfl, rEqD_tup (SqT.of hta) (SqT.of ((s1.trans s2) _ _ ht)) ⟨_, rfl, ?_⟩⟩
        refine ite2 (fun hc => ⟨_, rfl, hk2 hc _ (Same.refl _)⟩) fun hc => hn2 ?_ _ (Same.refl _)
        cases hdc : decide (f.adr = a)
        · rfl
        · exact absurd hdc hc
      · refine ⟨_, _, rfl, .inl (SqL.of hzs), ?_⟩
        rw [← Paired.length hpz]
        exact hk _ s2
    · refine ⟨D, rows.map (countOf a), rfl, SqL.of (by rw [hD, List.map_map]; rfl), by rw [List.length_map]; exact hne, fun m hm hmx => ?_⟩
      rw [maxOf_eq hm hmx]
      exact q _ s1
def viewsWith (rows : List (List FdD)) (a : List Int) : List FdD := rows.flatten.filter fun f => decide (f.adr = a)
def sp_views_with (K : PySem.W.Frag) : Sp := fun vs H Q _ => ∃ y rows t a, vs = [y, .ref t] ∧ ORow (ORow OFd) rows y H ∧ RowsOk rows ∧ H t = some (.tup (a.map V.int)) ∧ ∀ H' y, Same H H' → ORow OFd (viewsWith rows a) y H' → Q y H'
abbrev N_views_with : List Str := ["rows", "address", "row", "sector"]
theorem sc_views_with : FnScope N_views_with ["rows", "address"] (defScope s_views_with) := ⟨rfl, rfl, rfl, by decide +kernel, rfl, by decide +kernel, by decide +kernel⟩
theorem ok_views_with (W : T K mg) : Ok P w K mg base (1) "views_with" ["rows", "address"] (sp_views_with K) := by
  refine W.f_views_with.F.ok sc_views_with (fun vs H Q E h => ?_) (fun cdv A outer s H vs Q E hr h => ?_)
  · obtain ⟨y, rows, t, a, rfl, _⟩ := h
    rfl
  · obtain ⟨_, rows, t, a, rfl, ⟨p, ys, rfl, hp, hpr⟩, ⟨hz, hz2, hz3⟩, ht, q⟩ := h
    refine ⟨_, PSs.nox ((pss_one
       (ps_ret (pe_lc2 (own := [("row", 2), ("sector", 3)]) rfl sc_views_with.nd (vs1 := [3]) (pi_list (pv 0)) (blkOk_by (own := [("row", 2), ("sector", 3)]) (N := N_views_with) (sc := defScope s_views_with) (by decide +kernel)) (by decide) (fun _ _ _ _ _ => (pg_name (i := 2) sc_views_with.nd rfl (Or.inl rfl))) (fun _ _ _ _ _ => pts_nil) (fun _ _ _ _ _ => (pi_listK (K := K) rfl (pv 2))) (fun _ _ _ _ _ => (pg_name (i := 3) sc_views_with.nd rfl (Or.inl rfl))) (fun _ _ _ _ _ => (pts_one (pt_cmpR (op_eqDK (K := K) rfl hr.units) (pe_ix (ix_tupK (K := K) rfl) (pv 3) pe_int (fun _ _ => rfl)) (pv 1) (nomark _)))) (fun _ _ _ _ _ => (pv 3)))))), ?_⟩
    refine ⟨_, rfl, _, rfl, ⟨_, SqL.of hp⟩, fun D nD => ?_⟩
    refine lc2_rows 2 3 rows (fun f x H' => OFd f x H' ∧ OFd f x H) (fun f x _ => OFd f x H) (fun f => decide (f.adr = a)) id (fun e y H H' s h => ⟨mono_OFd _ _ _ _ s h.1, h.2⟩) (fun _ _ _ _ _ h => h) (Paired.mapP hpr fun es y z => ?_) (SqL.of hp) (by show _ ≤ 16777216; omega) nD (fun x => rfl) (fun x => rfl) (fun r f x H1 hm s1 ho hn k n hk hn' => ?_) fun H1 N zs s1 s2 nN hy r => ?_
    · obtain ⟨r, xs, e, hr, hxs⟩ := z
      exact ⟨r, xs, e, hr, Paired.mapP hxs fun e y z => ⟨z, z⟩⟩
    · obtain ⟨⟨u, ta, d, rfl, hu, hta, hd⟩, ho⟩ := ho
      refine ⟨rfl, _, rfl, _, _, _, .ref ta, rfl, rfl, SqT.of hu, rfl, _, rfl, rEqD_tup (SqT.of hta) (SqT.of (s1 _ _ ht)) ⟨_, rfl, ?_⟩⟩
      refine ite2 (fun hc => ⟨_, rfl, hk hc _ _ (Same.refl _) ho⟩) fun hc => hn' ?_ _ (Same.refl _)
      cases hdc : decide (f.adr = a)
      · exact hdc
      · exact absurd hdc hc
    · rw [List.map_id] at r
      exact q _ _ (s1.trans s2) ⟨D, zs, rfl, hy, Paired.mapP r fun e y z => mono_OFd _ _ _ _ (s1.trans s2) z⟩
def isWrong (rows : List (List FdD)) (a : List Int) : Bool := decide (0 < ((viewsWith rows a).filter fun f => f.data.isSome).length) && !(((viewsWith rows a).filter fun f => f.data.isSome).any fun f => f.dok)
theorem views_len {rows : List (List FdD)} (a : List Int) (h : RowsOk rows) : (viewsWith rows a).length ≤ 10000000 := Nat.le_trans (List.length_filter_le _ _) h.2.2
theorem dat_isN {o : Option (List Int)} {d : V} {H : Hp} (h : ODat o d H) : decide (d = V.non) = !o.isSome := by
  cases o with
  | none =>
    obtain rfl : d = .non := h
    rfl
  | some l =>
    obtain ⟨u, rfl, _⟩ := h
    rfl
def sp_is_wrong (K : PySem.W.Frag) : Sp := fun vs H Q _ => ∃ y rows t a, vs = [y, .ref t] ∧ ORow (ORow OFd) rows y H ∧ RowsOk rows ∧ H t = some (.tup (a.map V.int)) ∧ Ret H Q (.bl (isWrong rows a))
abbrev N_is_wrong : List Str := ["rows", "address", "views", "sector"]
theorem sc_is_wrong : FnScope N_is_wrong ["rows", "address"] (defScope s_is_wrong) := ⟨rfl, rfl, rfl, by decide +kernel, rfl, by decide +kernel, by decide +kernel⟩
theorem ok_is_wrong (W : T K mg) : Ok P w K mg base (2) "is_wrong" ["rows", "address"] (sp_is_wrong K) := by
  refine W.f_is_wrong.F.ok sc_is_wrong (fun vs H Q E h => ?_) (fun cdv A outer s H vs Q E hr h => ?_)
  · obtain ⟨y, rows, t, a, rfl, _⟩ := h
    rfl
  · obtain ⟨y, rows, t, a, rfl, hrow, hok, ht, q⟩ := h
    refine ⟨_, PSs.nox ((pss_cons
       (ps_setLc (i := 2) (own := [("sector", 3)]) rfl sc_is_wrong.nd rfl rfl (sw_true rfl rfl rfl (by decide +kernel)) (pi_list (pe_call (ok_views_with W) (hr.mono (by decide)) (by rfl) W.f_views_with.g W.f_views_with.F.kp W.f_views_with.b .nil pass0 (pa_cons (pv 0) (pa_cons (pv 1) pa_nil)))) (blkOk_by (own := [("sector", 3)]) (N := N_is_wrong) (sc := defScope s_is_wrong) (by decide +kernel)) (fun _ _ _ _ _ => (pg_name (i := 3) sc_is_wrong.nd rfl (Or.inl rfl))) (fun _ _ _ _ _ => (pts_one (pt_cmp (pc_notN (pe_ix (ix_tupK (K := K) rfl) (pv 3) pe_int (fun _ _ => rfl)))))) (fun _ _ _ _ _ => (pv 3)))
       (pss_one
       (ps_ret (pe_and (pe_cmpR op_gt (pe_callB call_len_seq (by rfl) W.n_len (by decide +kernel) (pa_cons (pv 2) pa_nil)) pe_int (nomark _)) (pe_one (pe_not (pe_callB (cr_any rfl) (by rfl) W.n_any (by decide +kernel) (pa_cons (pe_lc (own := [("sector", 3)]) rfl sc_is_wrong.nd (pi_list (pv 2)) (blkOk_by (own := [("sector", 3)]) (N := N_is_wrong) (sc := defScope s_is_wrong) (by decide +kernel)) (fun _ _ _ _ _ => (pg_name (i := 3) sc_is_wrong.nd rfl (Or.inl rfl))) (fun _ _ _ _ _ => pts_nil) (fun _ _ _ _ _ => (pe_ix (ix_tupK (K := K) rfl) (pv 3) pe_int (fun _ _ => rfl)))) pa_nil))))))))), ?_⟩
    refine ⟨_, rfl, _, rfl, y, rows, t, a, rfl, hrow, hok, ht, fun H1 z s1 hz => ?_⟩
    obtain ⟨p, ys, rfl, hp, hpr⟩ := hz
    have hvl := views_len a hok
    refine ⟨_, rfl, ⟨_, SqL.of hp⟩, fun D nD => ?_⟩
    refine lcR_sel OFd mono_OFd (viewsWith rows a) (fun f => f.data.isSome) (SqL.of hp) hpr (by show _ ≤ 16777216; omega) nD (fun f x H2 k2 n2 hm2 s2 hf hk2 hn2 => ?_) fun H2 zs s2 hzs hpz => ?_
    · obtain ⟨u, ta, d, rfl, hu, hta, hd⟩ := hf
      refine ⟨rfl, _, rfl, _, _, _, d, rfl, rfl, SqT.of hu, rfl, _, rfl, ?_⟩
      rw [dat_isN hd, Bool.not_not]
      cases hdc : f.data.isSome with
      | true => exact iteT ⟨_, rfl, hk2 hdc _ (Same.refl _)⟩
      | false => exact iteF (hn2 hdc _ (Same.refl _))
    generalize eb : isWrong rows a = res at q
    unfold isWrong at eb
    revert hpz eb
    have hvl2 : ((viewsWith rows a).filter fun f => f.data.isSome).length ≤ 10000000 := Nat.le_trans (List.length_filter_le _ _) hvl
    revert hvl2
    generalize (viewsWith rows a).filter (fun f => f.data.isSome) = vw
    intro hvl2 hpz eb
    have hzl := Paired.length hpz
    refine ⟨_, rfl, _, _, rfl, .inl (SqL.of hzs), _, _, rfl, rfl, _, rfl, ?_⟩
    rw [← hzl]
    refine ite2 (fun hc => ?_) fun hc => ?_
    · have hc' : 0 < vw.length := by
        have := of_decide_eq_true hc
        omega
      rw [decide_eq_true hc', Bool.true_and] at eb
      refine ⟨_, rfl, _, rfl, ⟨_, SqL.of hzs⟩, fun D2 nD2 => ?_⟩
      refine lcR_map OFd mono_OFd vw (fun f => V.bl f.dok) (SqL.of hzs) (Paired.mapP hpz fun e y z => mono_OFd _ _ _ _ s2 z) (by show _ ≤ 16777216; omega) nD2 (fun f x H3 k3 hm3 s3 hf hk3 => ?_) fun H3 s3 hD3 => ?_
      · obtain ⟨u, ta, d, rfl, hu, hta, hd⟩ := hf
        exact ⟨rfl, _, rfl, _, _, _, .bl f.dok, rfl, rfl, SqT.of hu, rfl, hk3 _ (Same.refl _)⟩
      · refine ⟨D2, vw.map fun f => f.dok, rfl, SqL.of (by rw [hD3, List.map_map]; rfl), _, rfl, ?_⟩
        have e2 : (vw.map fun f => f.dok).any id = vw.any fun f => f.dok := by rw [List.any_map]; rfl
        rw [e2, eb]
        exact q _ ((s1.trans s2).trans s3)
    · have hc' : ¬ 0 < vw.length := fun z => hc (decide_eq_true (by omega))
      rw [decide_eq_false hc', Bool.false_and] at eb
      rw [← eb] at q
      exact q _ (s1.trans s2)
def isEmpty (rows : List (List FdD)) (a : List Int) : Bool := (viewsWith rows a).all fun f => !f.data.isSome
def sp_is_empty (K : PySem.W.Frag) : Sp := fun vs H Q _ => ∃ y rows t a, vs = [y, .ref t] ∧ ORow (ORow OFd) rows y H ∧ RowsOk rows ∧ H t = some (.tup (a.map V.int)) ∧ Ret H Q (.bl (isEmpty rows a))
abbrev N_is_empty : List Str := ["rows", "address", "sector"]
theorem sc_is_empty : FnScope N_is_empty ["rows", "address"] (defScope s_is_empty) := ⟨rfl, rfl, rfl, by decide +kernel, rfl, by decide +kernel, by decide +kernel⟩
theorem ok_is_empty (W : T K mg) : Ok P w K mg base (2) "is_empty" ["rows", "address"] (sp_is_empty K) := by
  refine W.f_is_empty.F.ok sc_is_empty (fun vs H Q E h => ?_) (fun cdv A outer s H vs Q E hr h => ?_)
  · obtain ⟨y, rows, t, a, rfl, _⟩ := h
    rfl
  · obtain ⟨y, rows, t, a, rfl, hrow, hok, ht, q⟩ := h
    refine ⟨_, PSs.nox ((pss_one
       (ps_ret (pe_callB (cr_all rfl) (by rfl) W.n_all (by decide +kernel) (pa_cons (pe_lc (own := [("sector", 2)]) rfl sc_is_empty.nd (pi_list (pe_call (ok_views_with W) (hr.mono (by decide)) (by rfl) W.f_views_with.g W.f_views_with.F.kp W.f_views_with.b .nil pass0 (pa_cons (pv 0) (pa_cons (pv 1) pa_nil)))) (blkOk_by (own := [("sector", 2)]) (N := N_is_empty) (sc := defScope s_is_empty) (by decide +kernel)) (fun _ _ _ _ _ => (pg_name (i := 2) sc_is_empty.nd rfl (Or.inl rfl))) (fun _ _ _ _ _ => pts_nil) (fun _ _ _ _ _ => (pe_cmp (pc_isN (pe_ix (ix_tupK (K := K) rfl) (pv 2) pe_int (fun _ _ => rfl)))))) pa_nil))))), ?_⟩
    refine ⟨_, rfl, _, rfl, y, rows, t, a, rfl, hrow, hok, ht, fun H1 z s1 hz => ?_⟩
    obtain ⟨p, ys, rfl, hp, hpr⟩ := hz
    have hvl := views_len a hok
    refine ⟨_, rfl, ⟨_, SqL.of hp⟩, fun D nD => ?_⟩
    refine lcR_map OFd mono_OFd (viewsWith rows a) (fun f => V.bl (!f.data.isSome)) (SqL.of hp) hpr (by show _ ≤ 16777216; omega) nD (fun f x H3 k3 hm3 s3 hf hk3 => ?_) fun H3 s3 hD3 => ?_
    · obtain ⟨u, ta, d, rfl, hu, hta, hd⟩ := hf
      refine ⟨rfl, _, rfl, _, _, _, d, rfl, rfl, SqT.of hu, rfl, ?_⟩
      show k3 (.bl (decide (d = V.non))) H3
      rw [dat_isN hd]
      exact hk3 _ (Same.refl _)
    · refine ⟨D, (viewsWith rows a).map fun f => !f.data.isSome, rfl, SqL.of (by rw [hD3, List.map_map]; rfl), ?_⟩
      have e2 : ((viewsWith rows a).map fun f => !f.data.isSome).all id = isEmpty rows a := by rw [List.all_map]; rfl
      rw [e2]
      exact q _ (s1.trans s3)
end
end KW
end

section
set_option Elab.async false
set_option linter.all false
set_option maxRecDepth 100000
set_option maxHeartbeats 4000000
/-! features: mirror, promise. -/
namespace KW
open PySem PySem.Spec PyProof.Rows L2 KR
/-! ### the mathematics -/
theorem code_inj : ∀ {a b : List Int}, a.length = b.length → TS.Bd 256 a → TS.Bd 256 b → TS.code 256 a = TS.code 256 b → a = b
  | [], [], _, _, _, _ => rfl
  | [], _ :: _, h, _, _, _ => by simp at h
  | _ :: _, [], h, _, _, _ => by simp at h
  | d :: r, e :: q, h, ha, hb, hc => by
    have hl : r.length = q.length := by simpa using h
    rcases Int.lt_trichotomy d e with hlt | rfl | hlt
    · have := TS.code_lt hl ha.tail hb.tail hlt
      omega
    · have h1 := TS.code_same (B := 256) (d := d) hl
      have h2 := TS.code_same (B := 256) (d := d) hl.symm
      have h3 : ¬ TS.code 256 r < TS.code 256 q := fun z => by
        have := h1.mpr z
        omega
      have h4 : ¬ TS.code 256 q < TS.code 256 r := fun z => by
        have := h2.mpr z
        omega
      rw [code_inj hl ha.tail hb.tail (by omega)]
    · have := TS.code_lt hl.symm hb.tail ha.tail hlt
      omega
theorem bd_adr {a : List Int} (h : AdrOk a) : TS.Bd 256 a := fun m hm => by
  have := h.2 m hm
  omega
/-- the addresses of the rows, ascending -/
structure AddrsOf (rows : List (List FdD)) (as : List (List Int)) : Prop where
  nd : as.Nodup
  mem : ∀ a, a ∈ as ↔ ∃ f ∈ rows.flatten, f.adr = a
  asc : as.Pairwise fun a b => TS.code 256 a ≤ TS.code 256 b
theorem uniq : ∀ {as bs : List (List Int)}, as.Pairwise (fun a b => TS.code 256 a < TS.code 256 b) → bs.Pairwise (fun a b => TS.code 256 a < TS.code 256 b) → (∀ x, x ∈ as ↔ x ∈ bs) → as = bs
  | [], [], _, _, _ => rfl
  | [], b :: bs, _, _, h => absurd ((h b).mpr (List.mem_cons_self ..)) (by simp)
  | a :: as, [], _, _, h => absurd ((h a).mp (List.mem_cons_self ..)) (by simp)
  | a :: as, b :: bs, ha, hb, h => by
    rw [List.pairwise_cons] at ha hb
    have e : a = b := by
      rcases List.mem_cons.mp ((h a).mp (List.mem_cons_self ..)) with e | h1
      · exact e
      · rcases List.mem_cons.mp ((h b).mpr (List.mem_cons_self ..)) with e | h2
        · exact e.symm
        · have g1 := hb.1 a h1
          have g2 := ha.1 b h2
          omega
    subst e
    rw [uniq ha.2 hb.2 fun x => ?_]
    constructor
    · intro hx
      rcases List.mem_cons.mp ((h x).mp (List.mem_cons_of_mem _ hx)) with rfl | h1
      · exact absurd (ha.1 x hx) (by omega)
      · exact h1
    · intro hx
      rcases List.mem_cons.mp ((h x).mpr (List.mem_cons_of_mem _ hx)) with rfl | h1
      · exact absurd (hb.1 x hx) (by omega)
      · exact h1
theorem strict : ∀ {as : List (List Int)}, (∀ a ∈ as, AdrOk a) → as.Nodup → as.Pairwise (fun a b => TS.code 256 a ≤ TS.code 256 b) → as.Pairwise (fun a b => TS.code 256 a < TS.code 256 b)
  | [], _, _, _ => .nil
  | a :: as, hok, hn, hp => by
    rw [List.nodup_cons] at hn
    rw [List.pairwise_cons] at hp ⊢
    refine ⟨fun b hb => ?_, strict (fun x hx => hok x (List.mem_cons_of_mem _ hx)) hn.2 hp.2⟩
    have h1 := hp.1 b hb
    have ha := hok a (List.mem_cons_self ..)
    have hb' := hok b (List.mem_cons_of_mem _ hb)
    have h2 : TS.code 256 a ≠ TS.code 256 b := fun e => hn.1 (by rw [code_inj (by rw [ha.1, hb'.1]) (bd_adr ha) (bd_adr hb') e]; exact hb)
    omega
theorem AddrsOf.uniq {rows : List (List FdD)} {as bs : List (List Int)} (hok : ∀ f ∈ rows.flatten, AdrOk f.adr) (ha : AddrsOf rows as) (hb : AddrsOf rows bs) : as = bs := by
  have h1 : ∀ a ∈ as, AdrOk a := fun a h => by
    obtain ⟨f, hf, rfl⟩ := (ha.mem a).mp h
    exact hok f hf
  have h2 : ∀ a ∈ bs, AdrOk a := fun a h => by
    obtain ⟨f, hf, rfl⟩ := (hb.mem a).mp h
    exact hok f hf
  exact KW.uniq (strict h1 ha.nd ha.asc) (strict h2 hb.nd hb.asc) fun x => (ha.mem x).trans (hb.mem x).symm
/-- a feature -/
inductive FeD where
  | weak (s c : Int) | doub (a : List Int) (n : Int) | wrong (a : List Int) | nodata (a : List Int) | long (n : Int) | mixed | odd (a : List Int)
def feAdr : FeD → Option (List Int)
  | .doub a _ => some a
  | .wrong a => some a
  | .nodata a => some a
  | .odd a => some a
  | _ => none
def feV (t : Addr) : FeD → List V
  | .weak s c => [.str "weak", .int s, .int c]
  | .doub _ n => [.str "doubled", .ref t, .int n]
  | .wrong _ => [.str "wrong data", .ref t]
  | .nodata _ => [.str "no data", .ref t]
  | .long n => [.str "long", .int n]
  | .mixed => [.str "mixed sizes"]
  | .odd _ => [.str "odd address", .ref t]
def OFe : FeD → V → Hp → Prop := fun f y H => ∃ p t, y = .ref p ∧ H p = some (.tup (feV t f)) ∧ ∀ a, feAdr f = some a → H t = some (.tup (a.map V.int))
theorem OFe.tups {H H' : Hp} {f : FeD} {y : V} (s : Tups H H') (h : OFe f y H) : OFe f y H' := by
  obtain ⟨p, t, e, h1, h2⟩ := h
  exact ⟨p, t, e, s _ _ h1, fun a ha => s _ _ (h2 a ha)⟩
theorem mono_OFe : Mono OFe := fun _ _ _ _ s h => OFe.tups (fun p xs e => s _ _ e) h
def featsOf (place : List Int) (rows : List (List FdD)) (runs : List (Int × Int)) (n : Nat) (wanted : Int) (as : List (List Int)) : List FeD :=
  runs.map (fun r => .weak r.1 r.2) ++ (as.filter fun a => decide (1 < doubledOf rows a)).map (fun a => .doub a (doubledOf rows a)) ++ (as.filter fun a => isWrong rows a).map .wrong ++ (as.filter fun a => isEmpty rows a).map .nodata ++
    (if decide (wanted < (n : Int)) = true then [.long n] else []) ++ (if decide ((1 : Int) < ((distinct (as.map fun a => a.getD 3 0) : Nat) : Int)) = true then [.mixed] else []) ++ (as.filter fun a => !decide (a.take 2 = place)).map .odd
theorem tups_of {H H' : Hp} (s : Same H H') : Tups H H' := fun p xs e => s _ _ e
theorem tups_but {H H' : Hp} {o : Addr} {ys : List V} (ho : H o = some (.lst ys)) (b : But o H H') : Tups H H' := fun p xs e => b _ _ (ne_of e ho (by intro z; cases z)) e
theorem flatten_le {α : Type} (m : Nat) : ∀ (rows : List (List α)), (∀ row ∈ rows, row.length ≤ m) → rows.flatten.length ≤ rows.length * m
  | [], _ => Nat.zero_le _
  | r :: rows, h => by
    have h1 := flatten_le m rows fun x hx => h x (List.mem_cons_of_mem _ hx)
    have h2 := h r (List.mem_cons_self ..)
    rw [List.flatten_cons, List.length_append, List.length_cons, Nat.succ_mul]
    omega
theorem paired_ks : ∀ {as : List (List Int)} {ys : List V} {H : Hp}, Paired (fun e y => OTup e y H) as ys → ∃ ks : List (Addr × List Int), ys = ks.map (fun p => V.ref p.1) ∧ as = ks.map (·.2) ∧ ∀ p ∈ ks, H p.1 = some (.tup (p.2.map V.int))
  | _, _, _, .nil => ⟨[], rfl, rfl, fun _ h => by cases h⟩
  | _, _, _, .cons ⟨t, e, h⟩ r => by
    obtain ⟨ks, e1, e2, h3⟩ := paired_ks r
    refine ⟨(t, _) :: ks, by rw [e, e1]; rfl, by rw [e2]; rfl, fun p hp => ?_⟩
    rcases List.mem_cons.mp hp with rfl | hp
    · exact h
    · exact h3 p hp
theorem ks_paired {H : Hp} : ∀ {ks : List (Addr × List Int)}, (∀ p ∈ ks, H p.1 = some (.tup (p.2.map V.int))) → Paired (fun e y => OTup e y H) (ks.map (·.2)) (ks.map fun p => V.ref p.1)
  | [], _ => .nil
  | p :: ks, h => .cons ⟨p.1, rfl, h p (List.mem_cons_self ..)⟩ (ks_paired fun q hq => h q (List.mem_cons_of_mem _ hq))
section
variable {P : Program} {w : World} {K : PySem.W.Frag} {mg : Str → Option Value} {base : Heap}
def sp_all_addresses (K : PySem.W.Frag) : Sp := fun vs H Q _ => ∃ y rows, vs = [y] ∧ ORow (ORow OFd) rows y H ∧ rows.flatten.length < 64 ∧ (∀ f ∈ rows.flatten, AdrOk f.adr) ∧
  ∀ H' p zs as, Same H H' → H' p = some (.lst zs) → Paired (fun a x => OTup a x H') as zs → AddrsOf rows as → as.length < 64 → Q (.ref p) H'
abbrev N_all_addresses : List Str := ["rows", "row", "sector"]
theorem sc_all_addresses : FnScope N_all_addresses ["rows"] (defScope s_all_addresses) := ⟨rfl, rfl, rfl, by decide +kernel, rfl, by decide +kernel, by decide +kernel⟩
theorem ok_all_addresses (W : T K mg) : Ok P w K mg base (1) "all_addresses" ["rows"] (sp_all_addresses K) := by
  refine W.f_all_addresses.F.ok sc_all_addresses (fun vs H Q E h => ?_) (fun cdv A outer s H vs Q E hr h => ?_)
  · obtain ⟨y, rows, rfl, _⟩ := h
    rfl
  · obtain ⟨_, rows, rfl, ⟨p, ys, rfl, hp, hpr⟩, hz, hok, q⟩ := h
    refine ⟨_, PSs.nox ((pss_one
       (ps_ret (pe_callB (cr_sortedT rfl) (by rfl) W.n_sorted (by decide +kernel) (pa_cons (pe_callTy (cr_setOfT rfl hr.units) (by rfl) W.n_set (by decide +kernel) (pa_cons (pe_lc2 (own := [("row", 1), ("sector", 2)]) rfl sc_all_addresses.nd (vs1 := [2]) (pi_list (pv 0)) (blkOk_by (own := [("row", 1), ("sector", 2)]) (N := N_all_addresses) (sc := defScope s_all_addresses) (by decide +kernel)) (by decide) (fun _ _ _ _ _ => (pg_name (i := 1) sc_all_addresses.nd rfl (Or.inl rfl))) (fun _ _ _ _ _ => pts_nil) (fun _ _ _ _ _ => (pi_listK (K := K) rfl (pv 1))) (fun _ _ _ _ _ => (pg_name (i := 2) sc_all_addresses.nd rfl (Or.inl rfl))) (fun _ _ _ _ _ => pts_nil) (fun _ _ _ _ _ => (pe_ix (ix_tupK (K := K) rfl) (pv 2) pe_int (fun _ _ => rfl)))) pa_nil)) pa_nil))))), ?_⟩
    refine ⟨_, rfl, _, rfl, ⟨_, SqL.of hp⟩, fun D nD => ?_⟩
    refine lc2_rows 1 2 rows (fun f x H' => OFd f x H' ∧ OFd f x H) (fun a x _ => OTup a x H) yes (fun f => f.adr) (fun e y H H' s h => ⟨mono_OFd _ _ _ _ s h.1, h.2⟩) (fun _ _ _ _ _ h => h) (Paired.mapP hpr fun es y z => ?_) (SqL.of hp) (by show _ ≤ 16777216; omega) nD (fun x => rfl) (fun x => rfl) (fun r f x H1 hm s1 ho hn k n hk hn' => ?_) fun H1 N zs s1 s2 nN hy r => ?_
    · obtain ⟨r, xs, e, hr, hxs⟩ := z
      exact ⟨r, xs, e, hr, Paired.mapP hxs fun e y z => ⟨z, z⟩⟩
    · obtain ⟨⟨u, ta, d, rfl, hu, hta, hd⟩, ⟨u', ta', d', e', hu', hta', hd'⟩⟩ := ho
      obtain rfl := V.ref.inj e'
      have et : ta' = ta := by
        have e9 := (s1 _ _ hu').symm.trans hu
        injection e9 with e9
        injection e9 with e9
        injection e9 with _ e9
        injection e9 with e9 _
        exact V.ref.inj e9
      subst et
      exact ⟨rfl, _, rfl, _, _, _, .ref ta', rfl, rfl, SqT.of hu, rfl, hk rfl _ _ (Same.refl _) ⟨ta', rfl, hta'⟩⟩
    · rw [filter_yes] at r
      obtain ⟨ks, rfl, eas, hks⟩ := paired_ks r
      have sall := s1.trans s2
      have hkl : ks.length < 64 := by
        have := congrArg List.length eas
        rw [List.length_map, List.length_map] at this
        omega
      have hkm : ∀ q ∈ ks, ∃ f ∈ rows.flatten, f.adr = q.2 := fun q hq => by
        have : q.2 ∈ rows.flatten.map (fun f => f.adr) := by
          rw [eas]
          exact List.mem_map.mpr ⟨q, hq, rfl⟩
        obtain ⟨f, hf, e⟩ := List.mem_map.mp this
        exact ⟨f, hf, e⟩
      refine ⟨D, ks, rfl, SqL.of hy, fun q hq => SqT.of (sall _ _ (hks q hq)), hkl, fun a L na sub all => ?_⟩
      have s3 := Same.new (o := SetTO P w a L) na
      refine ⟨a, L, 4, 256, rfl, upd_same, fun q hq => SqT.of (s3 _ _ (sall _ _ (hks q (sub q hq)))), by decide, fun q hq => ?_, fun L' b pm nd few asc nb => ?_⟩
      · obtain ⟨f, hf, e⟩ := hkm q (sub q hq)
        have := hok f hf
        rw [e] at this
        exact ⟨this.1, bd_adr this⟩
      · have s4 := Same.new (o := .lst (L'.map fun q => V.ref q.1)) nb
        have sx := (sall.trans s3).trans s4
        refine q _ b _ (L'.map (·.2)) sx upd_same (ks_paired fun q hq => sx _ _ (hks q (sub q (pm.mem_iff.mp hq)))) ⟨nd, fun x => ?_, List.pairwise_map.mpr asc⟩ (by rw [List.length_map]; exact few)
        constructor
        · intro hx
          obtain ⟨q, hq, rfl⟩ := List.mem_map.mp hx
          exact hkm q (sub q (pm.mem_iff.mp hq))
        · rintro ⟨f, hf, rfl⟩
          have h1 : f.adr ∈ ks.map (·.2) := by
            rw [← eas]
            exact List.mem_map.mpr ⟨f, hf, rfl⟩
          obtain ⟨q, hq, e⟩ := List.mem_map.mp h1
          obtain ⟨q2, hq2, e2⟩ := List.mem_map.mp (all q hq)
          exact List.mem_map.mpr ⟨q2, pm.mem_iff.mpr hq2, e2.trans e⟩
end
end KW
end

section
set_option Elab.async false
set_option linter.all false
set_option maxRecDepth 100000
set_option maxHeartbeats 4000000
/-! features: promise. -/
namespace KW
open PySem PySem.Spec PyProof.Rows L2 KR
section
variable {P : Program} {w : World} {K : PySem.W.Frag} {mg : Str → Option Value} {base : Heap}
theorem paired_append {α β : Type} {R : α → β → Prop} : ∀ {xs xs2 : List α} {ys ys2 : List β}, Paired R xs ys → Paired R xs2 ys2 → Paired R (xs ++ xs2) (ys ++ ys2)
  | _, _, _, _, .nil, s => s
  | _, _, _, _, .cons r t, s => .cons r (paired_append t s)
/-- found.extend([.. for address in addresses if ..]) -/
theorem ext_step {σ : L2.St} {H : Hp} {o p : Addr} {ys zs : List V} {fs : List FeD} {as : List (List Int)} {tt : TT} {te : TE} {Dn : Ends} (sel : List Int → Bool) (F : List Int → FeD)
    (h7 : σ[7]? = some (some (.ref o))) (h6 : σ[6]? = some (some (.ref p))) (ho : H o = some (.lst ys)) (hf : Paired (fun f y => OFe f y H) fs ys) (hp : H p = some (.lst zs)) (ha : Paired (fun a x => OTup a x H) as zs) (hlen : as.length < 64) (hfl : ys.length ≤ 1000000)
    (hw : ∀ x : V, wipe ((wipe σ [12]).set 12 (some x)) [12] = wipe σ [12]) (hF : ∀ a b, feAdr (F a) = some b → b = a)
    (hs : ∀ a t H1 (k : V → Hp → Prop) (n : Hp → Prop), a ∈ as → Same H H1 → H1 t = some (.tup (a.map V.int)) → (sel a = true → ∀ q H', Same H1 H' → H' q = none → k (.ref q) (upd H' q (.tup (feV t (F a))))) → (sel a = false → ∀ H', Same H1 H' → n H') →
      tt ((wipe σ [12]).set 12 (some (.ref t))) H1 fun b H3 => if b = true then te ((wipe σ [12]).set 12 (some (.ref t))) H3 k else n H3)
    (hd : ∀ H' ys', But o H H' → H' o = some (.lst ys') → Paired (fun f y => OFe f y H') (fs ++ (as.filter sel).map F) ys' → ys'.length ≤ ys.length + 64 → Dn.nx σ H') :
    tDrop (tBM K "list" rExtend (tVar 7) (tCons (tLc (iList K (tVar 6)) (gName 12) tt te [12]) tNil)) Dn σ H := by
  refine ⟨_, h7, .inl ⟨rfl, _, SqL.of ho⟩, _, h6, _, rfl, ⟨_, SqL.of hp⟩, fun D nD => ?_⟩
  refine lc_all as (fun a x H' => OTup a x H' ∧ OTup a x H) OFe sel F (fun e y H H' s h => ⟨mono_OTup _ _ _ _ s h.1, h.2⟩) mono_OFe (Paired.mapP ha fun e y z => ⟨z, z⟩) (SqL.of hp) (by rw [← Paired.length ha]; show _ ≤ 16777216; omega) nD (fun a x H1 hm s1 hI hn k n hk hn' => ?_) fun H1 N vs s1 s2 nN hy r => ?_
  · obtain ⟨_, t, rfl, ht⟩ := hI
    refine ⟨hw _, hs a t H1 k n hm s1 (s1 _ _ ht) (fun e q H' sH nq => hk e _ _ (sH.trans (Same.new nq)) ⟨q, t, rfl, ?_, fun b hb => ?_⟩) hn'⟩
    · have hqD : q ≠ D := fun z => hn (sH.free (by rw [← z]; exact nq))
      rw [del_ne hqD, upd_same]
    · rw [hF a b hb]
      have htD : t ≠ D := ne_of_none ht nD
      have htq : t ≠ q := ne_of_none (sH _ _ (s1 _ _ ht)) nq
      rw [del_ne htD, upd_ne htq]
      exact sH _ _ (s1 _ _ ht)
  · have sall := s1.trans s2
    have hl1 := Paired.length r
    have hl2 : ((as.filter sel).map F).length ≤ 64 := by
      rw [List.length_map]
      have := List.length_filter_le sel as
      omega
    refine ⟨_, _, _, _, rfl, rfl, sall _ _ ho, hy, (by show _ ≤ 16777216; omega), hd _ (ys ++ vs) (But.upd (But.of sall)) upd_same ?_ (by rw [List.length_append]; omega)⟩
    have ho' := sall _ _ ho
    have tu : Tups H1 (upd H1 o (.lst (ys ++ vs))) := fun p xs e => by
      rw [upd_ne (ne_of e ho' (by intro z; cases z))]
      exact e
    exact paired_append (Paired.mapP hf fun e y z => OFe.tups tu (mono_OFe _ _ _ _ sall z)) (Paired.mapP r fun e y z => OFe.tups tu (mono_OFe _ _ _ _ s2 z))
/-- found.append((..)) -/
theorem app_step {σ : L2.St} {H : Hp} {o : Addr} {ys vs : List V} {fs : List FeD} {f : FeD} {ta : TA} {Dn : Ends} (h7 : σ[7]? = some (some (.ref o))) (ho : H o = some (.lst ys)) (hf : Paired (fun f y => OFe f y H) fs ys) (hfl : ys.length ≤ 1000000) (hl : vs.length ≤ sizeLine)
    (ht : ∀ Q : List V → Hp → Prop, Q vs H → ta σ H Q) (hv : ∀ t, vs = feV t f) (hn : feAdr f = none)
    (hd : ∀ H' ys', But o H H' → H' o = some (.lst ys') → Paired (fun f y => OFe f y H') (fs ++ [f]) ys' → ys'.length ≤ ys.length + 64 → Dn.nx σ H') : tDrop (tBM K "list" rAppend (tVar 7) (tCons (tTup ta) tNil)) Dn σ H := by
  refine ⟨_, h7, .inl ⟨rfl, _, SqL.of ho⟩, ht _ ⟨hl, fun t nt => ?_⟩⟩
  have st := Same.new (o := .tup vs) nt
  refine ⟨_, _, _, rfl, rfl, st _ _ ho, (by show _ < 16777216; omega), hd _ _ (But.upd (But.of st)) upd_same ?_ (by rw [List.length_append]; exact Nat.add_le_add_left (by show 1 ≤ 64; decide) _)⟩
  have hto : t ≠ o := (ne_of_none ho nt).symm
  refine Paired.snoc (Paired.mapP hf fun e y z => OFe.tups (fun p xs e => ?_) z) ⟨t, t, rfl, ?_, fun a ha => ?_⟩
  · rw [upd_ne (ne_of e ho (by intro z; cases z))]
    exact st _ _ e
  · rw [upd_ne hto, upd_same, ← hv t]
  · rw [hn] at ha
    cases ha
/-- if ..: found.append((..)) -/
theorem if_app {σ : L2.St} {H : Hp} {o : Addr} {ys vs : List V} {fs : List FeD} {f : FeD} {ta : TA} {Dn : Ends} (b : Bool) (h7 : σ[7]? = some (some (.ref o))) (ho : H o = some (.lst ys)) (hf : Paired (fun f y => OFe f y H) fs ys) (hfl : ys.length ≤ 1000000) (hl : vs.length ≤ sizeLine)
    (ht : ∀ Q : List V → Hp → Prop, Q vs H → ta σ H Q) (hv : ∀ t, vs = feV t f) (hn : feAdr f = none)
    (hd : ∀ H' ys', But o H H' → H' o = some (.lst ys') → Paired (fun f y => OFe f y H') (fs ++ if b = true then [f] else []) ys' → ys'.length ≤ ys.length + 64 → Dn.nx σ H') :
    if b = true then tDrop (tBM K "list" rAppend (tVar 7) (tCons (tTup ta) tNil)) Dn σ H else tNext Dn σ H := by
  cases b with
  | true => exact iteT (app_step h7 ho hf hfl hl ht hv hn fun H' ys' b1 h1 h2 h3 => hd H' ys' b1 h1 h2 h3)
  | false => exact iteF (hd H ys But.refl ho (by rw [show (if false = true then [f] else []) = ([] : List FeD) from rfl, List.append_nil]; exact hf) (Nat.le_add_right _ _))
theorem cut_2 {a : List Int} (h : a.length = 4) : cutV (a.map V.int) none (some 2) = (a.take 2).map V.int := by
  have e : HT.sIx (a.map V.int).length (a.map V.int).length (some 2) = 2 := by
    rw [List.length_map, h]
    rfl
  unfold cutV
  rw [e, HT.sIx_none, List.drop_zero, List.map_take]
theorem found_len (cells : List Int) : (foundSectors cells).length ≤ cells.length + 1 := by
  unfold foundSectors
  have h1 := look_all_len cells (markPlaces cells) ⟨[], false, 0⟩
  have h2 : (markPlaces cells).length ≤ cells.length + 1 := markGo_len _ _ _ _
  have h3 : (([] : List FdD)).length = 0 := rfl
  simp only [h3] at h1
  omega
theorem rows_ok {reads : List RdD} {c : Int} (h : RdsOk reads c) : RowsOk (foundIn reads c) := by
  have h1 : ∀ row ∈ foundIn reads c, row.length ≤ 100001 := fun row hrow => by
    obtain ⟨r, hr, rfl⟩ := List.mem_map.mp hrow
    have := found_len (fixedCells r c)
    have := (h.2 r hr).2.1
    omega
  have h2 : (foundIn reads c).length ≤ 50 := by
    unfold foundIn
    rw [List.length_map]
    exact h.1
  refine ⟨by omega, fun row hrow => Nat.le_trans (h1 row hrow) (by decide), Nat.le_trans (flatten_le 100001 _ h1) ?_⟩
  calc (foundIn reads c).length * 100001 ≤ 50 * 100001 := Nat.mul_le_mul_right _ h2
    _ ≤ 10000000 := by decide
theorem good_ok {rows : List (List FdD)} (h : RowsOk rows) (h2 : rows.flatten.length ≤ 10000000) : RowsOk (goodSectors rows) := by
  refine ⟨by unfold goodSectors; rw [List.length_map]; exact h.1, fun row hrow => ?_, ?_⟩
  · obtain ⟨r, hr, rfl⟩ := List.mem_map.mp hrow
    exact Nat.le_trans (List.length_filter_le _ _) (h.2.1 r hr)
  · refine Nat.le_trans ?_ h2
    clear h h2
    induction rows with
    | nil => exact Nat.le_refl _
    | cons r rows ih =>
      show ((r.filter fun f => f.ok) ++ (goodSectors rows).flatten).length ≤ (r ++ rows.flatten).length
      rw [List.length_append, List.length_append]
      have := List.length_filter_le (fun f : FdD => f.ok) r
      omega
theorem good_adr {reads : List RdD} {c : Int} (h : RdsOk reads c) : ∀ f ∈ (goodSectors (foundIn reads c)).flatten, AdrOk f.adr := fun f hf => by
  obtain ⟨row, hrow, hf⟩ := List.mem_flatten.mp hf
  obtain ⟨r, hr, rfl⟩ := List.mem_map.mp hrow
  obtain ⟨rd, hrd, rfl⟩ := List.mem_map.mp hr
  exact found_adr (h.2 rd hrd).2.2 f (List.mem_filter.mp hf).1
def sp_features (K : PySem.W.Frag) : Sp := fun vs H Q _ => ∃ pl place y reads c wanted n, vs = [.ref pl, y, .int c, .int wanted] ∧ H pl = some (.tup (place.map V.int)) ∧ ORow (OReadK K) reads y H ∧ 10 ≤ c ∧ c ≤ 1000 ∧ RdsOk reads c ∧ Even n (reads.map fun r => fixedCells r c) ∧ n ≤ 100000 ∧
  (goodSectors (foundIn reads c)).flatten.length < 64 ∧
  ∀ H' p zs as, Same H H' → H' p = some (.lst zs) → AddrsOf (goodSectors (foundIn reads c)) as → Paired (fun f y => OFe f y H') (featsOf place (goodSectors (foundIn reads c)) (weakRuns n (reads.map fun r => fixedCells r c)) n wanted as) zs → Q (.ref p) H'
abbrev N_features : List Str := ["place", "reads", "cell", "wanted", "rows", "lists", "addresses", "found", "longest", "read", "start", "count", "address", "cells"]
theorem sc_features : FnScope N_features ["place", "reads", "cell", "wanted"] (defScope s_features) := ⟨rfl, rfl, rfl, by decide +kernel, rfl, by decide +kernel, by decide +kernel⟩
theorem ok_features (W : T K mg) : Ok P w K mg base (10) "features" ["place", "reads", "cell", "wanted"] (sp_features K) := by
  refine W.f_features.F.ok sc_features (fun vs H Q E h => ?_) (fun cdv A outer s H vs Q E hr h => ?_)
  · obtain ⟨pl, place, y, reads, c, wanted, n, rfl, _⟩ := h
    rfl
  · obtain ⟨pl, place, y, reads, c, wanted, n, rfl, hpl, hrd, hc1, hc2, hok, hev, hn, h64, q⟩ := h
    refine ⟨_, PSs.nox ((pss_cons
       (ps_set (i := 4) sc_features.nd rfl (Or.inr rfl) (pe_call (ok_good_sectors W) (hr.mono (by decide)) (by rfl) W.f_good_sectors.g W.f_good_sectors.F.kp W.f_good_sectors.b .nil pass0 (pa_cons (pe_call (ok_found_in W) (hr.mono (by decide)) (by rfl) W.f_found_in.g W.f_found_in.F.kp W.f_found_in.b .nil pass0 (pa_cons (pv 1) (pa_cons (pv 2) pa_nil))) pa_nil)))
       (pss_cons
       (ps_setLc (i := 5) (own := [("read", 9)]) rfl sc_features.nd rfl rfl (sw_true rfl rfl rfl (by decide +kernel)) (pi_list (pv 1)) (blkOk_by (own := [("read", 9)]) (N := N_features) (sc := defScope s_features) (by decide +kernel)) (fun _ _ _ _ _ => (pg_name (i := 9) sc_features.nd rfl (Or.inl rfl))) (fun _ _ _ _ _ => pts_nil) (fun _ _ _ _ _ => (pe_call (ok_fixed_cells W) (hr.mono (by decide)) (by rfl) W.f_fixed_cells.g W.f_fixed_cells.F.kp W.f_fixed_cells.b .nil pass0 (pa_cons (pv 9) (pa_cons (pv 2) pa_nil)))))
       (pss_cons
       (ps_set (i := 6) sc_features.nd rfl (Or.inl rfl) (pe_call (ok_all_addresses W) (hr.mono (by decide)) (by rfl) W.f_all_addresses.g W.f_all_addresses.F.kp W.f_all_addresses.b .nil pass0 (pa_cons (pv 4) pa_nil)))
       (pss_cons
       (ps_setLc (i := 7) (own := [("start", 10), ("count", 11)]) rfl sc_features.nd rfl rfl (sw_true rfl rfl rfl (by decide +kernel)) (pi_list (pe_call (ok_weak_runs W) (hr.mono (by decide)) (by rfl) W.f_weak_runs.g W.f_weak_runs.F.kp W.f_weak_runs.b .nil pass0 (pa_cons (pv 5) pa_nil))) (blkOk_by (own := [("start", 10), ("count", 11)]) (N := N_features) (sc := defScope s_features) (by decide +kernel)) (fun _ _ _ _ _ => (pg_tupK (K := K) (n := 2) rfl rfl (pgs_cons (pg_name (i := 10) sc_features.nd rfl (Or.inl rfl)) (pgs_cons (pg_name (i := 11) sc_features.nd rfl (Or.inl rfl)) pgs_nil)))) (fun _ _ _ _ _ => pts_nil) (fun _ _ _ _ _ => (pe_tup (pa_cons pe_str (pa_cons (pv 10) (pa_cons (pv 11) pa_nil))))))
       (pss_cons
       (ps_expr (pe_bm PySem.F.plainAttrs_list PySem.F.slot_list_extend PySem.F.type_list_extend mt_extend (pv 7) (pa_cons (pe_lc (own := [("address", 12)]) rfl sc_features.nd (pi_list (pv 6)) (blkOk_by (own := [("address", 12)]) (N := N_features) (sc := defScope s_features) (by decide +kernel)) (fun _ _ _ _ _ => (pg_name (i := 12) sc_features.nd rfl (Or.inl rfl))) (fun _ _ _ _ _ => (pts_one (pt_cmpR op_gt (pe_call (ok_doubled W) (hr.mono (by decide)) (by rfl) W.f_doubled.g W.f_doubled.F.kp W.f_doubled.b .nil pass0 (pa_cons (pv 4) (pa_cons (pv 12) pa_nil))) pe_int (nomark _)))) (fun _ _ _ _ _ => (pe_tup (pa_cons pe_str (pa_cons (pv 12) (pa_cons (pe_call (ok_doubled W) (hr.mono (by decide)) (by rfl) W.f_doubled.g W.f_doubled.F.kp W.f_doubled.b .nil pass0 (pa_cons (pv 4) (pa_cons (pv 12) pa_nil))) pa_nil)))))) pa_nil)))
       (pss_cons
       (ps_expr (pe_bm PySem.F.plainAttrs_list PySem.F.slot_list_extend PySem.F.type_list_extend mt_extend (pv 7) (pa_cons (pe_lc (own := [("address", 12)]) rfl sc_features.nd (pi_list (pv 6)) (blkOk_by (own := [("address", 12)]) (N := N_features) (sc := defScope s_features) (by decide +kernel)) (fun _ _ _ _ _ => (pg_name (i := 12) sc_features.nd rfl (Or.inl rfl))) (fun _ _ _ _ _ => (pts_one (pt_val (pe_call (ok_is_wrong W) (hr.mono (by decide)) (by rfl) W.f_is_wrong.g W.f_is_wrong.F.kp W.f_is_wrong.b .nil pass0 (pa_cons (pv 4) (pa_cons (pv 12) pa_nil)))))) (fun _ _ _ _ _ => (pe_tup (pa_cons pe_str (pa_cons (pv 12) pa_nil))))) pa_nil)))
       (pss_cons
       (ps_expr (pe_bm PySem.F.plainAttrs_list PySem.F.slot_list_extend PySem.F.type_list_extend mt_extend (pv 7) (pa_cons (pe_lc (own := [("address", 12)]) rfl sc_features.nd (pi_list (pv 6)) (blkOk_by (own := [("address", 12)]) (N := N_features) (sc := defScope s_features) (by decide +kernel)) (fun _ _ _ _ _ => (pg_name (i := 12) sc_features.nd rfl (Or.inl rfl))) (fun _ _ _ _ _ => (pts_one (pt_val (pe_call (ok_is_empty W) (hr.mono (by decide)) (by rfl) W.f_is_empty.g W.f_is_empty.F.kp W.f_is_empty.b .nil pass0 (pa_cons (pv 4) (pa_cons (pv 12) pa_nil)))))) (fun _ _ _ _ _ => (pe_tup (pa_cons pe_str (pa_cons (pv 12) pa_nil))))) pa_nil)))
       (pss_cons
       (ps_set (i := 8) sc_features.nd rfl (Or.inl rfl) (pe_callB (cr_max rfl) (by rfl) W.n_max (by decide +kernel) (pa_cons (pe_lc (own := [("cells", 13)]) rfl sc_features.nd (pi_list (pv 5)) (blkOk_by (own := [("cells", 13)]) (N := N_features) (sc := defScope s_features) (by decide +kernel)) (fun _ _ _ _ _ => (pg_name (i := 13) sc_features.nd rfl (Or.inl rfl))) (fun _ _ _ _ _ => pts_nil) (fun _ _ _ _ _ => (pe_callB (call_len_seqK (K := K) rfl) (by rfl) W.n_len (by decide +kernel) (pa_cons (pv 13) pa_nil)))) pa_nil)))
       (pss_cons
       (ps_if (pt_cmpR op_gt (pv 8) (pv 3) (nomark _)) (pss_one
       (ps_expr (pe_bm PySem.F.plainAttrs_list PySem.F.slot_list_append PySem.F.type_list_append mt_append (pv 7) (pa_cons (pe_tup (pa_cons pe_str (pa_cons (pv 8) pa_nil))) pa_nil)))) pss_nil)
       (pss_cons
       (ps_if (pt_cmpR op_gt (pe_lenSet rfl (by rfl) W.n_len (by rfl) W.n_set (pe_lc (own := [("address", 12)]) rfl sc_features.nd (pi_list (pv 6)) (blkOk_by (own := [("address", 12)]) (N := N_features) (sc := defScope s_features) (by decide +kernel)) (fun _ _ _ _ _ => (pg_name (i := 12) sc_features.nd rfl (Or.inl rfl))) (fun _ _ _ _ _ => pts_nil) (fun _ _ _ _ _ => (pe_ix (ix_tupK (K := K) rfl) (pv 12) pe_int (fun _ _ => rfl))))) pe_int (nomark _)) (pss_one
       (ps_expr (pe_bm PySem.F.plainAttrs_list PySem.F.slot_list_append PySem.F.type_list_append mt_append (pv 7) (pa_cons (pe_tup (pa_cons pe_str pa_nil)) pa_nil)))) pss_nil)
       (pss_cons
       (ps_expr (pe_bm PySem.F.plainAttrs_list PySem.F.slot_list_extend PySem.F.type_list_extend mt_extend (pv 7) (pa_cons (pe_lc (own := [("address", 12)]) rfl sc_features.nd (pi_list (pv 6)) (blkOk_by (own := [("address", 12)]) (N := N_features) (sc := defScope s_features) (by decide +kernel)) (fun _ _ _ _ _ => (pg_name (i := 12) sc_features.nd rfl (Or.inl rfl))) (fun _ _ _ _ _ => (pts_one (pt_cmpR (op_neDK (K := K) rfl hr.units) (pe_slice (sl_tupAK (K := K) rfl) (pv 12) po_none (po_some pe_int)) (pe_callTy (call_tuple_ofK (K := K) rfl) (by rfl) W.n_tuple (by decide +kernel) (pa_cons (pv 0) pa_nil)) (nomark _)))) (fun _ _ _ _ _ => (pe_tup (pa_cons pe_str (pa_cons (pv 12) pa_nil))))) pa_nil)))
       (pss_one
       (ps_ret (pv 7))))))))))))))), ?_⟩
    have hro := rows_ok hok
    refine ⟨_, rfl, _, rfl, y, reads, c, rfl, hrd, hc1, hc2, hok, fun H1 y1 s1 ho1 => ⟨_, _, rfl, mono_ORow (mono_ORow mono_OFd) _ _ _ _ fresh_sub ho1, hro, fun H2 y2 s2 ho2 => ?_⟩⟩
    have hgo := good_ok hro hro.2.2
    have hga := good_adr hok
    have hne : 0 < (goodSectors (foundIn reads c)).length := by
      have := hev.1
      rw [List.length_map] at this
      unfold goodSectors foundIn
      rw [List.length_map, List.length_map]
      exact this
    revert ho2 hgo hga hne h64 q
    generalize goodSectors (foundIn reads c) = rows
    intro h64 q ho2 hgo hga hne
    -- lists
    have sA := s1.trans s2
    obtain ⟨pr, ys, rfl, hpr, hprp⟩ := id hrd
    refine ⟨_, rfl, _, rfl, ⟨_, SqL.of (sA _ _ hpr)⟩, fun D nD => ?_⟩
    refine lcR_new (OReadK K) mono_ORead OLst mono_OLst reads (fun r => fixedCells r c) (SqL.of (sA _ _ hpr)) (Paired.mapP hprp fun e y z => mono_ORead _ _ _ _ sA z) (by have := hok.1; show _ ≤ 16777216; omega) nD (fun r x H3 k hm s3 ho hk => ?_) fun H3 s3 hD => ?_
    · obtain ⟨g1, g2, g3⟩ := hok.2 r hm
      exact ⟨rfl, _, rfl, _, rfl, x, r, c, rfl, ho, hc1, hc2, g1, g2, fun H4 t s4 nt ht => hk _ _ s4 ⟨t, rfl, fresh_at nt ht⟩⟩
    have hl3 := mono_ORow mono_OLst _ _ _ _ fresh_sub hD
    revert hev q hl3
    generalize (reads.map fun r => fixedCells r c) = lists
    intro hev q hl3
    -- addresses
    refine ⟨_, rfl, y2, rows, rfl, mono_ORow (mono_ORow mono_OFd) _ _ _ _ s3 ho2, h64, hga, fun H4 pa zs as s4 hpa has hadr has64 => ?_⟩
    -- found
    refine ⟨_, rfl, _, lists, n, rfl, mono_ORow mono_OLst _ _ _ _ s4 hl3, hev, hn, fun H5 y5 s5 ho5 => ?_⟩
    obtain ⟨p5, ys5, rfl, hp5, hpr5⟩ := mono_ORow mono_O2 _ _ _ _ fresh_sub ho5
    refine ⟨_, rfl, ⟨_, SqL.of hp5⟩, fun o no => ?_⟩
    have hwr : (weakRuns n lists).length ≤ 100000 := by
      have h1 := runs_len (weakPlaces n lists) []
      have h2 := weakPlaces_len n lists
      have h3 : ([] : List (Int × Int)).length = 0 := rfl
      unfold weakRuns
      omega
    refine lc_all (weakRuns n lists) O2 OFe yes (fun r => .weak r.1 r.2) mono_O2 mono_OFe hpr5 (SqL.of hp5) (by rw [← Paired.length hpr5]; show _ ≤ 16777216; omega) no (fun r x H6 hm s6 ho hn6 k n6 hk _ => ?_) fun H6 N fy s6 s6' nN ho fp => ?_
    · obtain ⟨t, rfl, ht⟩ := ho
      refine ⟨t, [.int r.1, .int r.2], rfl, SqT.of ht, rfl, _, _, rfl, _, _, rfl, rfl, rfl, ?_⟩
      refine ⟨_, rfl, _, rfl, (by show 3 ≤ sizeLine; decide), fun u nu => hk rfl _ _ (Same.new nu) ⟨u, u, rfl, ?_, fun a ha => by cases ha⟩⟩
      rw [del_ne (fun z => hn6 (by rw [← z]; exact nu)), upd_same]
      rfl
    rw [filter_yes] at fp
    have s56 := s6.trans s6'
    -- what is known ahead of the list at o
    have hrw := mono_ORow (mono_ORow mono_OFd) _ _ _ _ (s3.trans (s4.trans s5)) ho2
    have hpa5 := s5 _ _ hpa
    have has5 := Paired.mapP has fun e y z => mono_OTup _ _ _ _ s5 z
    have hl5 := mono_ORow mono_OLst _ _ _ _ (s4.trans s5) hl3
    have hpl5 := (sA.trans (s3.trans (s4.trans s5))) _ _ hpl
    have sH5 := sA.trans (s3.trans (s4.trans s5))
    have fl6 := Paired.length fp
    rw [List.length_map] at fl6
    have fp6 := Paired.mapP fp fun e y z => mono_OFe _ _ _ _ s6' z
    have hadk : ∀ a ∈ as, AdrOk a := fun a ha => by
      obtain ⟨f, hf, rfl⟩ := (hadr.mem a).mp ha
      exact hga f hf
    have hb6 : fy.length ≤ 100000 := by omega
    clear fp hpr5 hp5 ho5 has hpa hD hprp hl3 ho2 hrd fl6
    -- doubled
    refine ext_step (as := as) (fun a => decide (1 < doubledOf rows a)) (fun a => .doub a (doubledOf rows a)) rfl rfl ho fp6 (s56 _ _ hpa5) (Paired.mapP has5 fun e y z => mono_OTup _ _ _ _ s56 z) has64 (by omega) (fun x => rfl) (fun a b e => (Option.some.inj e).symm) (fun a t HA k nk hm sa ht hk hn' => ?_) fun H7 ys7 b7 ho7 fp7 len7 => ?_
    · have hr1 := mono_ORow (mono_ORow mono_OFd) _ _ _ _ (s56.trans sa) hrw
      refine ⟨_, rfl, _, rfl, y2, rows, t, a, rfl, hr1, hgo, hne, ht, fun HB sb => ⟨_, _, rfl, rfl, _, rfl, ite2 (fun hc => ?_) fun hc => hn' ?_ _ sb⟩⟩
      · refine ⟨_, rfl, _, rfl, _, rfl, y2, rows, t, a, rfl, mono_ORow (mono_ORow mono_OFd) _ _ _ _ sb hr1, hgo, hne, sb _ _ ht, fun HC sc => ⟨(by show 3 ≤ sizeLine; decide), fun q nq => hk hc _ _ (sb.trans sc) nq⟩⟩
      · cases hdc : decide (1 < doubledOf rows a)
        · rfl
        · exact absurd hdc hc
    have s57 : Same H5 H7 := ((But.of s56).trans b7).same no
    -- wrong data
    refine ext_step (as := as) (fun a => isWrong rows a) (fun a => .wrong a) rfl rfl ho7 fp7 (s57 _ _ hpa5) (Paired.mapP has5 fun e y z => mono_OTup _ _ _ _ s57 z) has64 (by omega) (fun x => rfl) (fun a b e => (Option.some.inj e).symm) (fun a t HA k nk hm sa ht hk hn' => ?_) fun H8 ys8 b8 ho8 fp8 len8 => ?_
    · have hr1 := mono_ORow (mono_ORow mono_OFd) _ _ _ _ (s57.trans sa) hrw
      refine ⟨_, rfl, _, rfl, y2, rows, t, a, rfl, hr1, hgo, ht, fun HB sb => ⟨_, rfl, ite2 (fun hc => ?_) fun hc => hn' ?_ _ sb⟩⟩
      · exact ⟨_, rfl, (by show 2 ≤ sizeLine; decide), fun q nq => hk hc _ _ sb nq⟩
      · cases hdc : isWrong rows a
        · rfl
        · exact absurd hdc hc
    have s58 : Same H5 H8 := ((But.of s57).trans b8).same no
    -- no data
    refine ext_step (as := as) (fun a => isEmpty rows a) (fun a => .nodata a) rfl rfl ho8 fp8 (s58 _ _ hpa5) (Paired.mapP has5 fun e y z => mono_OTup _ _ _ _ s58 z) has64 (by omega) (fun x => rfl) (fun a b e => (Option.some.inj e).symm) (fun a t HA k nk hm sa ht hk hn' => ?_) fun H9 ys9 b9 ho9 fp9 len9 => ?_
    · have hr1 := mono_ORow (mono_ORow mono_OFd) _ _ _ _ (s58.trans sa) hrw
      refine ⟨_, rfl, _, rfl, y2, rows, t, a, rfl, hr1, hgo, ht, fun HB sb => ⟨_, rfl, ite2 (fun hc => ?_) fun hc => hn' ?_ _ sb⟩⟩
      · exact ⟨_, rfl, (by show 2 ≤ sizeLine; decide), fun q nq => hk hc _ _ sb nq⟩
      · cases hdc : isEmpty rows a
        · rfl
        · exact absurd hdc hc
    have s59 : Same H5 H9 := ((But.of s58).trans b9).same no
    -- longest
    obtain ⟨pl5, yl5, el5, hpl5', hprl5⟩ := hl5
    obtain rfl := V.ref.inj el5
    have hevl := hev.2.1
    refine ⟨_, rfl, _, rfl, ⟨_, SqL.of (s59 _ _ hpl5')⟩, fun D2 nD2 => ?_⟩
    refine lcR_map OLst mono_OLst lists (fun _ => V.int (n : Nat)) (SqL.of (s59 _ _ hpl5')) (Paired.mapP hprl5 fun e y z => mono_OLst _ _ _ _ s59 z) (by show _ ≤ 16777216; omega) nD2 (fun l x HA k hm sa hl hk => ?_) fun H10 s10 hD10 => ?_
    · obtain ⟨b, rfl, hb⟩ := hl
      refine ⟨rfl, _, rfl, _, _, rfl, .inl (SqL.of hb), ?_⟩
      rw [List.length_map, hev.2.2 l hm]
      exact hk _ (Same.refl _)
    refine ⟨D2, lists.map fun _ => ((n : Nat) : Int), rfl, SqL.of (by rw [hD10, List.map_map]; rfl), by rw [List.length_map]; exact hev.1, fun m hm _ => ?_⟩
    obtain ⟨l0, _, em⟩ := List.mem_map.mp hm
    rw [← em]
    have s510 := s59.trans s10
    refine ⟨_, rfl, _, rfl, _, _, rfl, rfl, _, rfl, ?_⟩
    refine if_app (f := .long (n : Int)) (vs := [.str "long", .int (n : Int)]) _ rfl (s10 _ _ ho9) (Paired.mapP fp9 fun e y z => mono_OFe _ _ _ _ s10 z) (by omega) (by show 2 ≤ sizeLine; decide) (fun Q hQ => ⟨_, rfl, hQ⟩) (fun t => rfl) rfl fun H11 ys11 b11 ho11 fp11 len11 => ?_
    have s511 : Same H5 H11 := ((But.of s510).trans b11).same no
    -- mixed sizes
    refine ⟨_, rfl, _, rfl, ⟨_, SqL.of (s511 _ _ hpa5)⟩, fun D3 nD3 => ?_⟩
    refine lcR_map OTup mono_OTup as (fun a => V.int (a.getD 3 0)) (SqL.of (s511 _ _ hpa5)) (Paired.mapP has5 fun e y z => mono_OTup _ _ _ _ s511 z) (by show _ ≤ 16777216; omega) nD3 (fun a x HA k hm sa hl hk => ?_) fun H12 s12 hD12 => ?_
    · obtain ⟨b, rfl, hb⟩ := hl
      exact ⟨rfl, _, rfl, _, _, _, .int (a.getD 3 0), rfl, rfl, SqT.of hb, atI_nat (j := 3) (at_getD (ns := a) (by have := (hadk a hm).1; omega)), hk _ (Same.refl _)⟩
    refine ⟨D3, as.map fun a => a.getD 3 0, rfl, SqL.of (by rw [hD12, List.map_map]; rfl), by rw [List.length_map]; omega, _, _, rfl, rfl, _, rfl, ?_⟩
    have s512 := s511.trans s12
    refine if_app (f := .mixed) (vs := [.str "mixed sizes"]) _ rfl (s12 _ _ ho11) (Paired.mapP fp11 fun e y z => mono_OFe _ _ _ _ s12 z) (by omega) (by show 1 ≤ sizeLine; decide) (fun Q hQ => hQ) (fun t => rfl) rfl fun H13 ys13 b13 ho13 fp13 len13 => ?_
    have s513 : Same H5 H13 := ((But.of s512).trans b13).same no
    -- odd address
    refine ext_step (as := as) (fun a => !decide (a.take 2 = place)) (fun a => .odd a) rfl rfl ho13 fp13 (s513 _ _ hpa5) (Paired.mapP has5 fun e y z => mono_OTup _ _ _ _ s513 z) has64 (by omega) (fun x => rfl) (fun a b e => (Option.some.inj e).symm) (fun a t HA k nk hm sa ht hk hn' => ?_) fun H14 ys14 b14 ho14 fp14 len14 => ?_
    · have ha4 := (hadk a hm).1
      refine ⟨_, rfl, _, rfl, _, _, rfl, SqT.of ht, fun z => ?_, fun _ p np => ?_⟩
      · exfalso
        have z2 := z.2
        rw [List.length_map, ha4] at z2
        exact absurd (show (2 : Nat) = 4 from z2) (by decide)
      · have sp := Same.new (o := .tup (cutV (a.map V.int) none (some 2))) np
        refine ⟨_, rfl, _, _, rfl, .inr ⟨SqT.of (sp _ _ ((s513.trans sa) _ _ hpl5)), rNeD_tup (ns := a.take 2) (ms := place) (SqT.of ?_) (SqT.of (sp _ _ ((s513.trans sa) _ _ hpl5))) ⟨_, rfl, ?_⟩⟩⟩
        · rw [← cut_2 ha4]
          exact upd_same
        · refine ite2 (fun hc => ⟨_, rfl, (by show 2 ≤ sizeLine; decide), fun q nq => hk hc _ _ sp nq⟩) fun hc => hn' ?_ _ sp
          cases hdc : decide (a.take 2 = place)
          · exact absurd (by rw [hdc]; rfl) hc
          · rfl
    have s514 : Same H5 H14 := ((But.of s513).trans b14).same no
    refine ⟨_, rfl, q _ o ys14 as (sH5.trans s514) ho14 hadr ?_⟩
    exact fp14
end
end KW
end

section
set_option Elab.async false
set_option linter.all false
set_option maxRecDepth 100000
set_option maxHeartbeats 4000000
/-! protection, weak cells: mirrors, promises. -/
namespace KW
open PySem PySem.Spec PyProof.Rows L2 KR
/-! ### the mathematics -/
def isWeakBit (n i : Int) : Bool := decide ((n * 29 + i * 13) % 256 / vals_POWERS_protection.getD (i % 8).toNat 0 % 2 = 1)
def weakStep (pl num : Int) (f : List Int) (i : Nat) : List Int :=
  if 0 < pl + i ∧ pl + i < (f.length : Int) - 1 ∧ isWeakBit num i = true ∧ f.getD (pl + i - 1).toNat 0 = 0 ∧ f.getD (pl + i).toNat 0 = 0 ∧ f.getD (pl + i + 1).toNat 0 = 0 then f.set (pl + i).toNat 1 else f
def weakened (cells : List Int) (pl cnt num : Int) : List Int := (List.range cnt.toNat).foldl (weakStep pl num) cells
def most0 (j : Int) : Int := if j > 0 then j else 0
def least (i j : Int) : Int := if j < i then j else i
def protStep (num : Int) (cells : List Int) (r : Int × Int) : List Int := weakened cells r.1 (least r.2 (most0 ((cells.length : Int) - r.1))) num
def protCells (secs : List SecD) (runs : List (Int × Int)) (num : Int) : List Int := runs.foldl (protStep num) (trackCells secs)
theorem weakStep_len (pl num : Int) (f : List Int) (i : Nat) : (weakStep pl num f i).length = f.length := by
  unfold weakStep
  split
  · rw [List.length_set]
  · rfl
theorem weak_len (pl num : Int) : ∀ (l : List Nat) (f : List Int), (l.foldl (weakStep pl num) f).length = f.length
  | [], _ => rfl
  | i :: l, f => by rw [List.foldl_cons, weak_len pl num l, weakStep_len]
theorem weakened_len (cells : List Int) (pl cnt num : Int) : (weakened cells pl cnt num).length = cells.length := weak_len _ _ _ _
theorem protStep_len (num : Int) (cells : List Int) (r : Int × Int) : (protStep num cells r).length = cells.length := weakened_len _ _ _ _
theorem prot_len (num : Int) : ∀ (runs : List (Int × Int)) (cells : List Int), (runs.foldl (protStep num) cells).length = cells.length
  | [], _ => rfl
  | r :: runs, cells => by rw [List.foldl_cons, prot_len num runs, protStep_len]
theorem foldl_range {β : Type} (f : β → Nat → β) (b : β) (i : Nat) : (List.range (i + 1)).foldl f b = f ((List.range i).foldl f b) i := by
  rw [List.range_succ, List.foldl_append]
  rfl
section
variable {P : Program} {w : World} {K : PySem.W.Frag} {mg : Str → Option Value} {base : Heap}
def sp_is_weak_bit (K : PySem.W.Frag) : Sp := fun vs H Q _ => ∃ n i, vs = [.int n, .int i] ∧ Q (.bl (isWeakBit n i)) H
abbrev N_is_weak_bit : List Str := ["number", "index", "value"]
theorem sc_is_weak_bit : FnScope N_is_weak_bit ["number", "index"] (defScope s_is_weak_bit) := ⟨rfl, rfl, rfl, by decide +kernel, rfl, by decide +kernel, by decide +kernel⟩
theorem ok_is_weak_bit (W : T K mg) : Ok P w K mg base (1) "is_weak_bit" ["number", "index"] (sp_is_weak_bit K) := by
  refine W.f_is_weak_bit.F.ok sc_is_weak_bit (fun vs H Q E h => ?_) (fun cdv A outer s H vs Q E hr h => ?_)
  · obtain ⟨n, i, rfl, _⟩ := h
    rfl
  · obtain ⟨n, i, rfl, q⟩ := h
    refine ⟨_, PSs.nox ((pss_cons
       (ps_set (i := 2) sc_is_weak_bit.nd rfl (Or.inl rfl) (pe_op op_mod (pe_op op_add (pe_op op_mul (pv 0) pe_int) (pe_op op_mul (pv 1) pe_int)) pe_int))
       (pss_one
       (ps_ret (pe_cmpR op_eq (pe_op op_mod (pe_op op_fdiv (pv 2) (pe_ix ix_tup (pgT W.T_POWERS_protection) (pe_op op_mod (pv 1) pe_int) (fun _ _ => rfl))) pe_int) pe_int (nomark _)))))), ?_⟩
    have hi : 0 ≤ i % 8 ∧ i % 8 < 8 := ⟨Int.emod_nonneg _ (by decide), Int.emod_lt_of_pos _ (by decide)⟩
    have hp : CDiv ((n * 29 + i * 13) % 256) (vals_POWERS_protection.getD (i % 8).toNat 0) := by
      have : ∀ k, k < 8 → 0 < vals_POWERS_protection.getD k 0 ∧ vals_POWERS_protection.getD k 0 < 1073741824 := by decide
      exact this _ (by omega)
    have e := atI_nat (at_getD (ns := vals_POWERS_protection) (i := (i % 8).toNat) (by show _ < 8; omega))
    rw [show (((i % 8).toNat : Nat) : Int) = i % 8 by omega] at e
    refine ⟨_, rfl, _, _, rfl, rfl, .inr ⟨by decide, by decide⟩, _, rfl, _, _, rfl, rfl, .inr ⟨by decide, by decide⟩, _, _, rfl, rfl, _, _, rfl, rfl, (by show (0 : Int) < 256; decide), ?_⟩
    refine ⟨_, rfl, _, rfl, _, _, rfl, rfl, (by show (0 : Int) < 8; decide), _, _, _, .int (vals_POWERS_protection.getD (i % 8).toNat 0), rfl, rfl, W.T_POWERS_protection.2.sqT H, e, _, _, rfl, rfl, hp, _, _, rfl, rfl, (by show (0 : Int) < 2; decide), rfl, ?_⟩
    have ed : decide (V.int ((n * 29 + i * 13) % 256 / vals_POWERS_protection.getD (i % 8).toNat 0 % 2) = V.int 1) = isWeakBit n i := by
      unfold isWeakBit
      by_cases h : (n * 29 + i * 13) % 256 / vals_POWERS_protection.getD (i % 8).toNat 0 % 2 = 1
      · rw [decide_eq_true h, decide_eq_true (by rw [h])]
      · rw [decide_eq_false h, decide_eq_false (fun z => h (V.int.inj z))]
    have q' := q
    rw [← ed] at q'
    exact q'
def sp_weakened (K : PySem.W.Frag) : Sp := fun vs H Q _ => ∃ a cells pl cnt num, vs = [.ref a, .int pl, .int cnt, .int num] ∧ SqL K H a (cells.map V.int) ∧ 0 ≤ pl ∧ pl ≤ 1000000 ∧ -1000000 ≤ cnt ∧ cnt ≤ 1000000 ∧ cells.length ≤ 100000 ∧ NewI H Q (weakened cells pl cnt num)
abbrev N_weakened : List Str := ["cells", "place", "count", "number", "found", "index", "at"]
theorem sc_weakened : FnScope N_weakened ["cells", "place", "count", "number"] (defScope s_weakened) := ⟨rfl, rfl, rfl, by decide +kernel, rfl, by decide +kernel, by decide +kernel⟩
theorem ok_weakened (W : T K mg) : Ok P w K mg base (2) "weakened" ["cells", "place", "count", "number"] (sp_weakened K) := by
  refine W.f_weakened.F.ok sc_weakened (fun vs H Q E h => ?_) (fun cdv A outer s H vs Q E hr h => ?_)
  · obtain ⟨a, cells, pl, cnt, num, rfl, _⟩ := h
    rfl
  · obtain ⟨a, cells, pl, cnt, num, rfl, hl, h1, h2, h3, h4, hz, q⟩ := h
    refine ⟨_, PSs.nox ((pss_cons
       (ps_set (i := 4) sc_weakened.nd rfl (Or.inl rfl) (pe_callTy call_list_of (by rfl) W.n_list (by decide +kernel) (pa_cons (pv 0) pa_nil)))
       (pss_cons
       (ps_for PassesOwn.never rfl (pi_range1 rfl W.n_range (pa_cons (pv 2) pa_nil)) (pg_name (i := 5) sc_weakened.nd rfl (Or.inl rfl)) (pss_cons
       (ps_set (i := 6) sc_weakened.nd rfl (Or.inl rfl) (pe_op op_add (pv 1) (pv 5)))
       (pss_one
       (ps_if (PW.pt (pw_and (pt_chain op_lt op_lt pe_int (pv 6) (pe_op op_sub (pe_callB call_len_seq (by rfl) W.n_len (by decide +kernel) (pa_cons (pv 4) pa_nil)) pe_int)) (pw_and1 (pt_val (pe_call (ok_is_weak_bit W) (hr.mono (by decide)) (by rfl) W.f_is_weak_bit.g W.f_is_weak_bit.F.kp W.f_is_weak_bit.b .nil pass0 (pa_cons (pv 3) (pa_cons (pv 5) pa_nil))))))) (pss_one
       (ps_if (PW.pt (pw_and (pt_cmpR op_eq (pe_ix ix_list (pv 4) (pe_op op_sub (pv 6) pe_int) (fun _ _ => rfl)) pe_int (nomark _)) (pw_and (pt_cmpR op_eq (pe_ix ix_list (pv 4) (pv 6) (fun _ _ => rfl)) pe_int (nomark _)) (pw_and1 (pt_cmpR op_eq (pe_ix ix_list (pv 4) (pe_op op_add (pv 6) pe_int) (fun _ _ => rfl)) pe_int (nomark _)))))) (pss_one
       (ps_asg pe_int (pg_sub (pv 4) (pv 6) set_list))) pss_nil)) pss_nil))))
       (pss_one
       (ps_ret (pv 4)))))), ?_⟩
    refine ⟨_, rfl, _, _, rfl, .inl hl, fun o no => ?_⟩
    refine ⟨_, rfl, _, rfl, by omega, by omega, ?_⟩
    refine for_range (n := cnt.toNat) (fun i σ H' => Same H H' ∧ H' o = some (.lst (((List.range i).foldl (weakStep pl num) cells).map V.int)) ∧ ∃ y z, σ = [some (.ref a), some (.int pl), some (.int cnt), some (.int num), some (.ref o), y, z]) ⟨Same.new no, upd_same, _, _, rfl⟩ (fun i σ H' hi p => ?_) fun σ H' p => ?_
    · obtain ⟨s, ho, y, z, rfl⟩ := p
      have e0 : (0 + (i : Int)) = (i : Int) := by omega
      rw [e0, foldl_range]
      have hfl : ((List.range i).foldl (weakStep pl num) cells).length = cells.length := weak_len _ _ _ _
      generalize (List.range i).foldl (weakStep pl num) cells = f at ho hfl ⊢
      refine ⟨_, rfl, _, rfl, _, _, rfl, rfl, ?_⟩
      have ew : weakStep pl num f i = _ := rfl
      have stay : ¬ (0 < pl + i ∧ pl + i < (f.length : Int) - 1 ∧ isWeakBit num i = true ∧ f.getD (pl + i - 1).toNat 0 = 0 ∧ f.getD (pl + i).toNat 0 = 0 ∧ f.getD (pl + i + 1).toNat 0 = 0) → weakStep pl num f i = f := fun h => by
        unfold weakStep
        rw [if_neg h]
      have fin : weakStep pl num f i = f → (Same H H' ∧ H' o = some (.lst ((weakStep pl num f i).map V.int)) ∧ ∃ y z, [some (V.ref a), some (.int pl), some (.int cnt), some (.int num), some (.ref o), some (V.int (i : Int)), some (V.int (pl + (i : Int)))] = [some (.ref a), some (.int pl), some (.int cnt), some (.int num), some (.ref o), y, z]) := fun e => ⟨s, by rw [e]; exact ho, _, _, rfl⟩
      refine ⟨_, rfl, _, _, rfl, rfl, _, rfl, ite2 (fun hA => ?_) fun hA => ⟨_, rfl, iteF (iteF (fin (stay fun z => hA (decide_eq_true z.1))))⟩⟩
      have hA' : 0 < pl + (i : Int) := of_decide_eq_true hA
      refine ⟨_, rfl, _, _, rfl, .inl (SqL.of ho), _, _, rfl, rfl, _, _, rfl, rfl, _, rfl, ?_⟩
      rw [List.length_map]
      refine ite2 (fun hB => ?_) fun hB => iteF (fin (stay fun z => hB (decide_eq_true z.2.1)))
      have hB' : pl + (i : Int) < (f.length : Int) - 1 := of_decide_eq_true hB
      refine ⟨_, rfl, _, rfl, num, (i : Int), rfl, _, rfl, ?_⟩
      refine ite2 (fun hC => ?_) fun hC => fin (stay fun z => hC z.2.2.1)
      have g1 := atI_nat (at_getD (ns := f) (i := (pl + i - 1).toNat) (by omega))
      have g2 := atI_nat (at_getD (ns := f) (i := (pl + i).toNat) (by omega))
      have g3 := atI_nat (at_getD (ns := f) (i := (pl + i + 1).toNat) (by omega))
      rw [show (((pl + i - 1).toNat : Nat) : Int) = pl + i - 1 by omega] at g1
      rw [show (((pl + i).toNat : Nat) : Int) = pl + i by omega] at g2
      rw [show (((pl + i + 1).toNat : Nat) : Int) = pl + i + 1 by omega] at g3
      refine ⟨_, rfl, _, rfl, _, _, rfl, rfl, _, _, _, .int (f.getD (pl + i - 1).toNat 0), rfl, rfl, SqL.of ho, g1, rfl, _, rfl, ?_⟩
      refine ite2 (fun hD => ?_) fun hD => iteF (fin (stay fun z => hD (decide_eq_true (by rw [z.2.2.2.1]))))
      refine ⟨_, rfl, _, rfl, _, _, _, .int (f.getD (pl + i).toNat 0), rfl, rfl, SqL.of ho, g2, rfl, _, rfl, ?_⟩
      refine ite2 (fun hE => ?_) fun hE => iteF (fin (stay fun z => hE (decide_eq_true (by rw [z.2.2.2.2.1]))))
      refine ⟨_, rfl, _, rfl, _, _, rfl, rfl, _, _, _, .int (f.getD (pl + i + 1).toNat 0), rfl, rfl, SqL.of ho, g3, rfl, _, rfl, ?_⟩
      refine ite2 (fun hF => ?_) fun hF => fin (stay fun z => hF (decide_eq_true (by rw [z.2.2.2.2.2])))
      have hix : ixN (f.map V.int).length (pl + i) = some (pl + i).toNat := by
        unfold ixN
        rw [List.length_map, if_pos (by omega), if_pos (by omega)]
      have eset : weakStep pl num f i = f.set (pl + i).toNat 1 := by
        unfold weakStep
        rw [if_pos ⟨hA', hB', hC, V.int.inj (of_decide_eq_true hD), V.int.inj (of_decide_eq_true hE), V.int.inj (of_decide_eq_true hF)⟩]
      refine ⟨_, rfl, _, rfl, _, _, _, _, rfl, rfl, ho, hix, Same.mut s no, ?_, _, _, rfl⟩
      rw [upd_same, eset, List.map_set]
    · obtain ⟨s, ho, y, z, rfl⟩ := p
      exact ⟨_, rfl, q _ _ s no ho⟩
/-- runs within bounds -/
def RunsOk (runs : List (Int × Int)) : Prop := runs.length ≤ 10 ∧ ∀ r ∈ runs, 0 ≤ r.1 ∧ r.1 ≤ 10000 ∧ 0 ≤ r.2 ∧ r.2 ≤ 10000
theorem track_le {secs : List SecD} (h1 : secs.length ≤ 10) (hok : ∀ s ∈ secs, SecOk s) : (trackCells secs).length ≤ 9760 := by
  unfold trackCells
  rw [wPlain_len]
  have h := track_len secs (wPlain [] (List.replicate 10 78)) hok
  rw [start_len] at h
  have : ([] : List Int).length = 0 := rfl
  omega
def sp_protected_cells (K : PySem.W.Frag) : Sp := fun vs H Q _ => ∃ y secs z runs num, vs = [y, z, .int num, .int 0] ∧ ORow (OSecK K) secs y H ∧ ORow O2 runs z H ∧ secs.length ≤ 10 ∧ (∀ s ∈ secs, SecOk s) ∧ RunsOk runs ∧ NewI H Q (protCells secs runs num)
abbrev N_protected_cells : List Str := ["sectors", "runs", "number", "length", "cells", "place", "count"]
theorem sc_protected_cells : FnScope N_protected_cells ["sectors", "runs", "number", "length"] (defScope s_protected_cells) := ⟨rfl, rfl, rfl, by decide +kernel, rfl, by decide +kernel, by decide +kernel⟩
theorem ok_protected_cells (W : T K mg) : Ok P w K mg base (7) "protected_cells" ["sectors", "runs", "number", "length"] (sp_protected_cells K) := by
  refine W.f_protected_cells.F.ok sc_protected_cells (fun vs H Q E h => ?_) (fun cdv A outer s H vs Q E hr h => ?_)
  · obtain ⟨y, secs, z, runs, num, rfl, _⟩ := h
    rfl
  · obtain ⟨y, secs, z, runs, num, rfl, hsec, hruns, h1, h2, ⟨h3, h4⟩, q⟩ := h
    refine ⟨_, PSs.nox ((pss_cons
       (ps_set (i := 4) sc_protected_cells.nd rfl (Or.inl rfl) (pe_callN (ok_track_cells W) (hr.mono (by decide)) (by rfl) W.f_track_cells.g W.f_track_cells.F.kp W.f_track_cells.bk pass0 (pa_cons (pv 0) pa_nil) (pk_cons (pv 3) pk_nil)))
       (pss_cons
       (ps_for PassesOwn.never rfl (pi_list (pv 1)) (pg_tup rfl (pgs_cons (pg_name (i := 5) sc_protected_cells.nd rfl (Or.inl rfl)) (pgs_cons (pg_name (i := 6) sc_protected_cells.nd rfl (Or.inl rfl)) pgs_nil))) (pss_one
       (ps_set (i := 4) sc_protected_cells.nd rfl (Or.inl rfl) (pe_call (ok_weakened W) (hr.mono (by decide)) (by rfl) W.f_weakened.g W.f_weakened.F.kp W.f_weakened.b .nil pass0 (pa_cons (pv 4) (pa_cons (pv 5) (pa_cons (pe_callB (call_min2 rfl) (by rfl) W.n_min (by decide +kernel) (pa_cons (pv 6) (pa_cons (pe_callB (call_max2 rfl) (by rfl) W.n_max (by decide +kernel) (pa_cons pe_int (pa_cons (pe_op op_sub (pe_callB call_len_seq (by rfl) W.n_len (by decide +kernel) (pa_cons (pv 4) pa_nil)) (pv 5)) pa_nil))) pa_nil))) (pa_cons (pv 2) pa_nil))))))))
       (pss_one
       (ps_ret (pv 4)))))), ?_⟩
    refine ⟨_, rfl, _, rfl, rfl, rfl, y, secs, rfl, hsec, h1, h2, fun H1 p s1 np hp => ?_⟩
    obtain ⟨pr, ys, rfl, hpr, hprp⟩ := mono_ORow mono_O2 _ _ _ _ s1 hruns
    have htl := track_le h1 h2
    refine ⟨_, rfl, _, rfl, ⟨_, SqL.of hpr⟩, ?_⟩
    refine for_list (xs := ys) (fun i σ H' => Same H1 H' ∧ ∃ c a b, H c = none ∧ H' c = some (.lst (((runs.take i).foldl (protStep num) (trackCells secs)).map V.int)) ∧ σ = [some y, some (.ref pr), some (.int num), some (.int 0), some (.ref c), a, b]) ⟨Same.refl _, p, _, _, np, hp, rfl⟩ (fun i σ H' _ pr => SqL.of (pr.1 _ _ hpr)) (fun i x σ H' hx pr => ?_) fun σ H' pr => ?_
    · obtain ⟨s, c, a, b, nc, hc, rfl⟩ := pr
      obtain ⟨r, hr', ⟨t, rfl, ht⟩⟩ := paired_get' hprp hx
      obtain ⟨g1, g2, g3, g4⟩ := h4 r (List.mem_of_getElem? hr')
      rw [foldl_take _ _ hr']
      have hcl : ((runs.take i).foldl (protStep num) (trackCells secs)).length ≤ 9760 := by rw [prot_len]; exact htl
      generalize (runs.take i).foldl (protStep num) (trackCells secs) = cells at hc hcl ⊢
      have hm : 0 ≤ most0 ((cells.length : Int) - r.1) ∧ most0 ((cells.length : Int) - r.1) ≤ 9760 := by
        unfold most0
        split <;> omega
      have hL : 0 ≤ least r.2 (most0 ((cells.length : Int) - r.1)) ∧ least r.2 (most0 ((cells.length : Int) - r.1)) ≤ 1000000 := by
        unfold least
        split <;> omega
      refine ⟨t, [.int r.1, .int r.2], rfl, SqT.of (s _ _ ht), rfl, _, _, rfl, _, _, rfl, rfl, ?_⟩
      refine ⟨_, rfl, _, rfl, _, rfl, _, rfl, _, _, rfl, .inl (SqL.of hc), _, rfl, _, _, rfl, rfl, _, _, rfl, _, _, rfl, _, rfl, ?_⟩
      rw [List.length_map]
      refine ⟨c, cells, r.1, least r.2 (most0 ((cells.length : Int) - r.1)), num, rfl, SqL.of hc, g1, by omega, by omega, hL.2, by omega, fun H2 c2 s2 nc2 hc2 => ?_⟩
      exact ⟨s.trans s2, c2, _, _, (s1.trans s).free nc2, hc2, rfl⟩
    · obtain ⟨s, c, a, b, nc, hc, rfl⟩ := pr
      rw [← Paired.length hprp, List.take_length] at hc
      exact ⟨_, rfl, q _ _ (s1.trans s) nc hc⟩
end
end KW
end

section
set_option Elab.async false
set_option linter.all false
set_option maxRecDepth 100000
set_option maxHeartbeats 4000000
/-! numbers: mirrors, promises. -/
namespace KW
open PySem PySem.Spec PyProof.Rows L2 KR
/-! ### the mathematics -/
def writeNum (n : Nat) : List Int := if h : 128 ≤ n then ((128 + n % 128 : Nat) : Int) :: writeNum (n / 128) else [(n : Int)]
termination_by n
decreasing_by omega
theorem wn_big {n : Nat} (h : 128 ≤ n) : writeNum n = ((128 + n % 128 : Nat) : Int) :: writeNum (n / 128) := by
  rw [writeNum, dif_pos h]
theorem wn_small {n : Nat} (h : n < 128) : writeNum n = [(n : Int)] := by
  rw [writeNum, dif_neg (by omega)]
theorem wn_len : ∀ (k n : Nat), n < 128 ^ (k + 1) → (writeNum n).length ≤ k + 1
  | k, n, h => by
    by_cases hb : 128 ≤ n
    · rw [wn_big hb, List.length_cons]
      cases k with
      | zero => exact absurd h (by omega)
      | succ k =>
        have h2 : n / 128 < 128 ^ (k + 1) := by
          rw [Nat.pow_succ] at h
          exact Nat.div_lt_of_lt_mul (by rw [Nat.mul_comm]; exact h)
        have := wn_len k (n / 128) h2
        omega
    · rw [wn_small (by omega)]
      show 1 ≤ k + 1
      omega
theorem wn_pos (n : Nat) : 0 < (writeNum n).length := by
  by_cases hb : 128 ≤ n
  · rw [wn_big hb]
    exact Nat.succ_pos _
  · rw [wn_small (by omega)]
    exact Nat.succ_pos _
theorem drop_cons {α : Type} {l : List α} {i : Nat} {x : α} {r : List α} (h : l.drop i = x :: r) : l[i]? = some x ∧ l.drop (i + 1) = r ∧ i < l.length := by
  have hi : i < l.length := by
    apply Nat.lt_of_not_le
    intro hle
    rw [List.drop_eq_nil_of_le hle] at h
    cases h
  rw [List.drop_eq_getElem_cons hi] at h
  injection h with h1 h2
  exact ⟨by rw [List.getElem?_eq_getElem hi, h1], h2, hi⟩
section
variable {P : Program} {w : World} {K : PySem.W.Frag} {mg : Str → Option Value} {base : Heap}
def sp_write_number (K : PySem.W.Frag) : Sp := fun vs H Q _ => ∃ n : Nat, vs = [.int (n : Int)] ∧ n < 128 ^ 9 ∧ NewI H Q (writeNum n)
abbrev N_write_number : List Str := ["number", "values"]
theorem sc_write_number : FnScope N_write_number ["number"] (defScope s_write_number) := ⟨rfl, rfl, rfl, by decide +kernel, rfl, by decide +kernel, by decide +kernel⟩
theorem ok_write_number (W : T K mg) : Ok P w K mg base (1) "write_number" ["number"] (sp_write_number K) := by
  refine W.f_write_number.F.ok sc_write_number (fun vs H Q E h => ?_) (fun cdv A outer s H vs Q E hr h => ?_)
  · obtain ⟨n, rfl, _⟩ := h
    rfl
  · obtain ⟨n, rfl, hn, q⟩ := h
    refine ⟨_, PSs.nox ((pss_cons
       (ps_set (i := 1) sc_write_number.nd rfl (Or.inl rfl) (pe_lst pa_nil))
       (pss_cons
       (ps_while PassesOwn.never (pt_cmpR op_ge (pv 0) (pgi W.i_BASE) (nomark _)) (pss_cons
       (ps_expr (pe_bm PySem.F.plainAttrs_list PySem.F.slot_list_append PySem.F.type_list_append mt_append (pv 1) (pa_cons (pe_op op_add (pgi W.i_BASE) (pe_op op_mod (pv 0) (pgi W.i_BASE))) pa_nil)))
       (pss_one
       (ps_set (i := 0) sc_write_number.nd rfl (Or.inl rfl) (pe_op op_fdiv (pv 0) (pgi W.i_BASE))))))
       (pss_one
       (ps_ret (pe_op op_cat (pv 1) (pe_lst (pa_cons (pv 0) pa_nil)))))))), ?_⟩
    refine ⟨Nat.zero_le _, fun o no => ?_⟩
    have hlen := wn_len 8 n hn
    refine ⟨fun m σ H' => ∃ (acc : List Int), σ = [some (.int (m : Int)), some (.ref o)] ∧ Same H H' ∧ H' o = some (.lst (acc.map V.int)) ∧ writeNum n = acc ++ writeNum m, ⟨n, [], rfl, Same.new no, upd_same, rfl⟩, ?_⟩
    rintro m σ H' ⟨acc, rfl, s, ho, hm⟩
    have hacc : acc.length ≤ 9 := by
      have := congrArg List.length hm
      rw [List.length_append] at this
      omega
    refine ⟨_, rfl, _, _, rfl, rfl, _, rfl, ite2 (fun hc => ?_) fun hc => ?_⟩
    · have hc' : 128 ≤ m := by
        have := of_decide_eq_true hc
        omega
      refine ⟨fun σ' H2 => ∃ (acc : List Int), σ' = [some (.int ((m / 128 : Nat) : Int)), some (.ref o)] ∧ Same H H2 ∧ H2 o = some (.lst (acc.map V.int)) ∧ writeNum n = acc ++ writeNum (m / 128), fun σ' H2 hN => ⟨m / 128, by omega, hN⟩, ?_⟩
      refine ⟨_, rfl, .inl ⟨rfl, _, SqL.of ho⟩, _, rfl, _, _, rfl, rfl, (by show (0 : Int) < 128; decide), _, _, rfl, rfl, _, _, _, rfl, rfl, ho, (by rw [List.length_map]; show _ < 16777216; omega), ?_⟩
      refine ⟨_, rfl, _, _, rfl, rfl, ⟨by decide, by decide⟩, acc ++ [((128 + m % 128 : Nat) : Int)], rfl, Same.mut s no, ?_, ?_⟩
      · rw [upd_same, List.map_append]
        rfl
      · rw [hm, wn_big hc', List.append_assoc]
        rfl
    · have hc' : m < 128 := by
        apply Nat.lt_of_not_le
        intro z
        exact hc (decide_eq_true (by omega))
      refine ⟨_, rfl, _, rfl, (by show 1 ≤ sizeLine; decide), fun p np => ⟨_, _, _, _, rfl, rfl, Same.new np _ _ ho, upd_same, (by rw [List.length_map]; show acc.length + 1 ≤ 16777216; omega), fun p2 np2 => ?_⟩⟩
      have s2 := (s.trans (Same.new (o := .lst [V.int (m : Int)]) np))
      refine q _ _ (s2.trans (Same.new np2)) (s2.free np2) ?_
      rw [upd_same, hm, wn_small hc', List.map_append]
      rfl
def sp_read_number (K : PySem.W.Frag) : Sp := fun vs H Q _ => ∃ a pre n post, vs = [.ref a, .int ((pre.length : Nat) : Int)] ∧ SqL K H a ((pre ++ writeNum n ++ post).map V.int) ∧ (pre ++ writeNum n ++ post).length ≤ 1000000 ∧
  NewT H Q [.int (n : Int), .int ((pre.length + (writeNum n).length : Nat) : Int)]
abbrev N_read_number : List Str := ["values", "at", "number", "scale", "start"]
theorem sc_read_number : FnScope N_read_number ["values", "at"] (defScope s_read_number) := ⟨rfl, rfl, rfl, by decide +kernel, rfl, by decide +kernel, by decide +kernel⟩
theorem ok_read_number (W : T K mg) : Ok P w K mg base (1) "read_number" ["values", "at"] (sp_read_number K) := by
  refine W.f_read_number.F.ok sc_read_number (fun vs H Q E h => ?_) (fun cdv A outer s H vs Q E hr h => ?_)
  · obtain ⟨a, pre, n, post, rfl, _⟩ := h
    rfl
  · obtain ⟨a, pre, n, post, rfl, hl, hz, q⟩ := h
    refine ⟨_, PSs.nox ((pss_cons
       (ps_set (i := 2) sc_read_number.nd rfl (Or.inl rfl) pe_int)
       (pss_cons
       (ps_set (i := 3) sc_read_number.nd rfl (Or.inl rfl) pe_int)
       (pss_cons
       (ps_set (i := 4) sc_read_number.nd rfl (Or.inl rfl) (pv 1))
       (pss_cons
       (ps_while PassesOwn.never (PW.pt (pw_and (pt_cmpR op_lt (pv 1) (pe_callB call_len_seq (by rfl) W.n_len (by decide +kernel) (pa_cons (pv 0) pa_nil)) (nomark _)) (pw_and1 (pt_cmpR op_ge (pe_ix ix_list (pv 0) (pv 1) (fun _ _ => rfl)) (pgi W.i_BASE) (nomark _))))) (pss_cons
       (ps_aug (i := 2) sc_read_number.nd rfl (Or.inl rfl) (pe_op op_mul (pv 3) (pe_op op_sub (pe_ix ix_list (pv 0) (pv 1) (fun _ _ => rfl)) (pgi W.i_BASE))) ip_add)
       (pss_cons
       (ps_aug (i := 3) sc_read_number.nd rfl (Or.inl rfl) (pgi W.i_BASE) ip_mul)
       (pss_one
       (ps_aug (i := 1) sc_read_number.nd rfl (Or.inl rfl) pe_int ip_add)))))
       (pss_cons
       (ps_if (PW.pt (pw_or (pt_cmpR op_ge (pv 1) (pe_callB call_len_seq (by rfl) W.n_len (by decide +kernel) (pa_cons (pv 0) pa_nil)) (nomark _)) (pw_or1 (PW.pt (pw_and (pt_cmpR op_eq (pe_ix ix_list (pv 0) (pv 1) (fun _ _ => rfl)) pe_int (nomark _)) (pw_and1 (pt_cmpR op_gt (pv 1) (pv 4) (nomark _)))))))) (pss_one
       ps_never) pss_nil)
       (pss_one
       (ps_ret (pe_tup (pa_cons (pe_op op_add (pv 2) (pe_op op_mul (pv 3) (pe_ix ix_list (pv 0) (pv 1) (fun _ _ => rfl)))) (pa_cons (pe_op op_add (pv 1) pe_int) pa_nil))))))))))), ?_⟩
    have hz' : (pre ++ writeNum n ++ post).length ≤ 1000000 := hz
    have hlen : (writeNum n).length ≤ 1000000 := by
      rw [List.length_append, List.length_append] at hz
      omega
    have hd0 : (pre ++ writeNum n ++ post).drop (pre.length + 0) = writeNum n ++ post := by
      rw [Nat.add_zero, List.append_assoc, List.drop_left]
    generalize pre ++ writeNum n ++ post = full at hl hz hd0
    refine ⟨_, rfl, ?_⟩
    refine ⟨fun m σ H' => ∃ (k acc : Nat), H' = H ∧ σ = [some (.ref a), some (.int ((pre.length + k : Nat) : Int)), some (.int (acc : Int)), some (.int ((128 ^ k : Nat) : Int)), some (.int ((pre.length : Nat) : Int))] ∧
      full.drop (pre.length + k) = writeNum m ++ post ∧ n = acc + 128 ^ k * m ∧ (0 < k → 1 ≤ m) ∧ (writeNum n).length = k + (writeNum m).length, ⟨n, 0, 0, rfl, rfl, hd0, by omega, by omega, by omega⟩, ?_⟩
    rintro m σ H' ⟨k, acc, rfl, rfl, hd, hn, hk, hlk⟩
    by_cases hc : 128 ≤ m
    · rw [wn_big hc] at hd
      obtain ⟨g1, g2, g3⟩ := drop_cons hd
      have gi : atI (full.map V.int) ((pre.length + k : Nat) : Int) = some (.int ((128 + m % 128 : Nat) : Int)) := atI_nat (by rw [List.getElem?_map, g1]; rfl)
      refine ⟨_, rfl, _, rfl, _, _, rfl, .inl hl, _, _, rfl, rfl, _, rfl, ifT (decide_eq_true (by rw [List.length_map]; omega)) ?_⟩
      refine ⟨_, rfl, _, rfl, _, _, _, _, rfl, rfl, hl, gi, _, _, rfl, rfl, _, rfl, ifT (decide_eq_true (by omega)) ?_⟩
      refine ⟨fun σ' H2 => ∃ (k acc : Nat), H2 = H' ∧ σ' = [some (.ref a), some (.int ((pre.length + k : Nat) : Int)), some (.int (acc : Int)), some (.int ((128 ^ k : Nat) : Int)), some (.int ((pre.length : Nat) : Int))] ∧
        full.drop (pre.length + k) = writeNum (m / 128) ++ post ∧ n = acc + 128 ^ k * (m / 128) ∧ (0 < k → 1 ≤ m / 128) ∧ (writeNum n).length = k + (writeNum (m / 128)).length, fun σ' H2 hN => ⟨m / 128, by omega, hN⟩, ?_⟩
      refine ⟨_, rfl, _, rfl, _, rfl, _, rfl, _, _, _, _, rfl, rfl, hl, gi, _, _, rfl, rfl, _, _, rfl, rfl, .inr ⟨by omega, by omega⟩, _, _, rfl, rfl, ?_⟩
      refine ⟨_, rfl, _, _, rfl, rfl, .inr ⟨by decide, by decide⟩, ?_⟩
      refine ⟨_, rfl, _, _, rfl, rfl, k + 1, acc + 128 ^ k * (m % 128), rfl, ?_, ?_, ?_, ?_, ?_⟩
      · have e1 : (acc : Int) + ((128 ^ k : Nat) : Int) * (((128 + m % 128 : Nat) : Int) - 128) = ((acc + 128 ^ k * (m % 128) : Nat) : Int) := by
          rw [show (((128 + m % 128 : Nat) : Int) - 128) = ((m % 128 : Nat) : Int) by omega, ← Int.natCast_mul, ← Int.natCast_add]
        have e2 : ((128 ^ k : Nat) : Int) * 128 = ((128 ^ (k + 1) : Nat) : Int) := by
          rw [Nat.pow_succ, Int.natCast_mul]
          rfl
        have e3 : ((pre.length + k : Nat) : Int) + 1 = ((pre.length + (k + 1) : Nat) : Int) := by omega
        rw [← e1, ← e2, ← e3]
        rfl
      · exact g2
      · rw [hn, Nat.pow_succ, Nat.mul_assoc, Nat.add_assoc, ← Nat.mul_add]
        congr 2
        omega
      · intro _
        omega
      · rw [hlk, wn_big hc, List.length_cons]
        omega
    · have hs := wn_small (n := m) (by omega)
      rw [hs] at hd hlk
      obtain ⟨g1, g2, g3⟩ := drop_cons (show full.drop (pre.length + k) = (m : Int) :: post from hd)
      have gi : atI (full.map V.int) ((pre.length + k : Nat) : Int) = some (.int (m : Int)) := atI_nat (by rw [List.getElem?_map, g1]; rfl)
      refine ⟨_, rfl, _, rfl, _, _, rfl, .inl hl, _, _, rfl, rfl, _, rfl, ifT (decide_eq_true (by rw [List.length_map]; omega)) ?_⟩
      refine ⟨_, rfl, _, rfl, _, _, _, _, rfl, rfl, hl, gi, _, _, rfl, rfl, _, rfl, ifF (fun z => by have := of_decide_eq_true z; omega) ?_⟩
      -- the number's end
      refine ⟨_, rfl, _, rfl, _, _, rfl, .inl hl, _, _, rfl, rfl, _, rfl, ifF (fun z => by
        have := of_decide_eq_true z
        rw [List.length_map] at this
        omega) ?_⟩
      have tail : tTup (tCons (tOp (rI0 fun i j => .int (i + j)) (tVar 2) (tOp (rI CMul fun i j => .int (i * j)) (tVar 3) (tOp (rIxL K) (tVar 0) (tVar 1)))) (tCons (tOp (rI0 fun i j => .int (i + j)) (tVar 1) (tC (.int 1))) tNil))
          [some (.ref a), some (.int ((pre.length + k : Nat) : Int)), some (.int (acc : Int)), some (.int ((128 ^ k : Nat) : Int)), some (.int ((pre.length : Nat) : Int))] H' Q := by
        refine ⟨_, rfl, _, rfl, _, rfl, _, rfl, _, _, _, _, rfl, rfl, hl, gi, _, _, rfl, rfl, .inr ⟨by omega, by omega⟩, _, _, rfl, rfl, _, rfl, _, _, rfl, rfl, (by show 2 ≤ sizeLine; decide), fun p np => ?_⟩
        refine q _ p (Same.new np) np ?_
        have e1 : (acc : Int) + ((128 ^ k : Nat) : Int) * (m : Int) = (n : Int) := by
          rw [hn, Int.natCast_add, Int.natCast_mul]
        have e2 : ((pre.length + k : Nat) : Int) + 1 = ((pre.length + (writeNum n).length : Nat) : Int) := by
          rw [hlk]
          show _ = ((pre.length + (k + 1) : Nat) : Int)
          omega
        rw [upd_same, ← e1, ← e2]
      refine ⟨_, rfl, _, rfl, _, _, _, _, rfl, rfl, hl, gi, rfl, _, rfl, ?_⟩
      refine ite2 (fun h0 => ?_) fun h0 => iteF tail
      have hm0 : (m : Int) = 0 := V.int.inj (of_decide_eq_true h0)
      have hk0 : k = 0 := by
        cases k with
        | zero => rfl
        | succ k =>
          have := hk (Nat.succ_pos _)
          omega
      refine ⟨_, rfl, _, rfl, _, _, rfl, rfl, _, rfl, ?_⟩
      refine ifF (fun z => ?_) tail
      have := of_decide_eq_true z
      omega
end
end KW
end

section
set_option Elab.async false
set_option linter.all false
set_option maxRecDepth 100000
set_option maxHeartbeats 4000000
/-! images, the writing side: mirrors, promises. -/
namespace KW
open PySem PySem.Spec PyProof.Rows L2 KR
/-! ### the mathematics -/
def backCount (iv : List Int) (n : Nat) : Nat := match (List.range (min 60 n)).find? (fun c => decide (iv.getD (n - (c + 1)) 0 = iv.getD n 0)) with
  | some c => c + 1
  | none => 0
theorem back_ok (iv : List Int) (n : Nat) : backCount iv n = 0 ∨ (1 ≤ backCount iv n ∧ backCount iv n ≤ n ∧ backCount iv n ≤ 60 ∧ iv.getD (n - backCount iv n) 0 = iv.getD n 0) := by
  unfold backCount
  split
  · next c hc =>
    have h1 := List.find?_some hc
    have h2 := List.mem_of_find?_eq_some hc
    rw [List.mem_range] at h2
    exact .inr ⟨by omega, by omega, by omega, of_decide_eq_true h1⟩
  · exact .inl rfl
def ivBytes (iv : List Int) (n : Nat) : List Int := if 0 < backCount iv n then writeNum (2 * backCount iv n) else writeNum (2 * (iv.getD n 0).toNat + 1)
def ivsBytes (iv : List Int) (n : Nat) : List Int := (List.range n).flatMap (ivBytes iv)
def readBytes (r : RdD) : List Int := writeNum r.iv.length ++ ivsBytes r.iv r.iv.length ++ writeNum r.rest.toNat
/-- a read of few intervals -/
def Few (r : RdD) : Prop := RdOk r ∧ r.iv.length ≤ 5000
theorem iv_nat {r : RdD} (h : RdOk r) {n : Nat} (hn : n < r.iv.length) : 1 ≤ r.iv.getD n 0 ∧ r.iv.getD n 0 ≤ 1000000 := by
  have : r.iv.getD n 0 ∈ r.iv := by
    rw [List.getD_eq_getElem?_getD, List.getElem?_eq_getElem hn]
    exact List.getElem_mem _
  exact h.2.2.2 _ this
theorem ivBytes_len {r : RdD} (h : RdOk r) {n : Nat} (hn : n < r.iv.length) : (ivBytes r.iv n).length ≤ 3 := by
  unfold ivBytes
  have h1 := iv_nat h hn
  have h2 := back_ok r.iv n
  split
  · exact wn_len 2 _ (by omega)
  · exact wn_len 2 _ (by omega)
theorem ivsBytes_succ (iv : List Int) (n : Nat) : ivsBytes iv (n + 1) = ivsBytes iv n ++ ivBytes iv n := by
  unfold ivsBytes
  rw [List.range_succ, List.flatMap_append]
  simp
theorem ivsBytes_len {r : RdD} (h : RdOk r) : ∀ n, n ≤ r.iv.length → (ivsBytes r.iv n).length ≤ 3 * n
  | 0, _ => Nat.le_refl _
  | n + 1, hn => by
    rw [ivsBytes_succ, List.length_append]
    have h1 := ivsBytes_len h n (by omega)
    have h2 := ivBytes_len h (n := n) (by omega)
    omega
theorem readBytes_len {r : RdD} (h : Few r) : (readBytes r).length ≤ 15006 := by
  unfold readBytes
  rw [List.length_append, List.length_append]
  have h1 := ivsBytes_len h.1 _ (Nat.le_refl _)
  have h2 := wn_len 2 r.iv.length (by have := h.2; omega)
  have h3 := wn_len 2 r.rest.toNat (by have := h.1.2.2.1; omega)
  have := h.2
  omega
def trackPart (a b : Nat) (reads : List RdD) : List Int := writeNum a ++ writeNum b ++ writeNum reads.length ++ reads.flatMap readBytes
def readsBytes_le {reads : List RdD} (h : ∀ r ∈ reads, Few r) : (reads.flatMap readBytes).length ≤ 15006 * reads.length := by
  induction reads with
  | nil => exact Nat.le_refl _
  | cons r rs ih =>
    rw [List.flatMap_cons, List.length_append, List.length_cons]
    have h1 := readBytes_len (h r (List.mem_cons_self ..))
    have h2 := ih fun x hx => h x (List.mem_cons_of_mem _ hx)
    omega
def firstB : List Int := [68, 87, 73, 40, 1, 97, 1]
def sealedL (vs : List Int) : List Int := vs ++ twoBytes (crcI vs)
def imageBytes (reads : List RdD) : List Int := sealedL firstB ++ sealedL (trackPart 2 1 reads)
/-- one to twenty reads of few intervals -/
def Reads (reads : List RdD) : Prop := 1 ≤ reads.length ∧ reads.length ≤ 20 ∧ ∀ r ∈ reads, Few r
theorem trackPart_len {a b : Nat} (ha : a < 128) (hb : b < 128) {reads : List RdD} (h : Reads reads) : (trackPart a b reads).length ≤ 300123 := by
  unfold trackPart
  rw [List.length_append, List.length_append, List.length_append, wn_small ha, wn_small hb, wn_small (by have := h.2.1; omega)]
  have h1 := readsBytes_le h.2.2
  have h2 := h.2.1
  have : 15006 * reads.length ≤ 15006 * 20 := Nat.mul_le_mul_left _ h2
  show 1 + 1 + 1 + _ ≤ _
  omega
abbrev noteA : Str := Str.ofString "a"
theorem noteA_cps : noteA.cps = #[97] := by decide +kernel
theorem noteA_len : noteA.length = 1 := by decide +kernel
section
variable {P : Program} {w : World} {K : PySem.W.Frag} {mg : Str → Option Value} {base : Heap}
def sp_back_count (K : PySem.W.Frag) : Sp := fun vs H Q _ => ∃ (t : Addr) (iv : List Int) (n : Nat), vs = [.ref t, .int (n : Int)] ∧ SqT K H t (iv.map V.int) ∧ n < iv.length ∧ n ≤ 1000000 ∧ Q (.int (backCount iv n : Nat)) H
abbrev N_back_count : List Str := ["intervals", "at", "count"]
theorem sc_back_count : FnScope N_back_count ["intervals", "at"] (defScope s_back_count) := ⟨rfl, rfl, rfl, by decide +kernel, rfl, by decide +kernel, by decide +kernel⟩
theorem ok_back_count (W : T K mg) : Ok P w K mg base (1) "back_count" ["intervals", "at"] (sp_back_count K) := by
  refine W.f_back_count.F.ok sc_back_count (fun vs H Q E h => ?_) (fun cdv A outer s H vs Q E hr h => ?_)
  · obtain ⟨t, iv, n, rfl, _⟩ := h
    rfl
  · obtain ⟨t, iv, n, rfl, ht, hn, hz, q⟩ := h
    refine ⟨_, PSs.nox ((pss_cons
       (ps_for PassesOwn.never rfl (pi_range2 rfl W.n_range (pa_cons pe_int (pa_cons (pe_op op_add (pe_callB (call_min2 rfl) (by rfl) W.n_min (by decide +kernel) (pa_cons (pgi W.i_FARTHEST_BACK) (pa_cons (pv 1) pa_nil))) pe_int) pa_nil))) (pg_name (i := 2) sc_back_count.nd rfl (Or.inl rfl)) (pss_one
       (ps_if (pt_cmpR op_eq (pe_ix ix_tup (pv 0) (pe_op op_sub (pv 1) (pv 2)) (fun _ _ => rfl)) (pe_ix ix_tup (pv 0) (pv 1) (fun _ _ => rfl)) (nomark _)) (pss_one
       (ps_ret (pv 2))) pss_nil)))
       (pss_one
       (ps_ret pe_int)))), ?_⟩
    have em : (if (n : Int) < 60 then (n : Int) else 60) = ((min 60 n : Nat) : Int) := by split <;> omega
    refine ⟨_, rfl, _, _, rfl, _, _, rfl, rfl, 1, ((min 60 n : Nat) : Int) + 1, ?_, ⟨by omega, by omega, by omega, by omega⟩, ?_⟩
    · rw [← em]
    have en : (((min 60 n : Nat) : Int) + 1 - 1).toNat = min 60 n := by omega
    refine for_range (n := _) (fun i σ H' => H' = H ∧ (∀ j, j < i → iv.getD (n - (j + 1)) 0 ≠ iv.getD n 0) ∧ ∃ z, σ = [some (.ref t), some (.int (n : Int)), z]) ⟨rfl, fun j hj => absurd hj (Nat.not_lt_zero _), _, rfl⟩ (fun i σ H' hi p => ?_) fun σ H' p => ?_
    · obtain ⟨rfl, hno, z, rfl⟩ := p
      rw [en] at hi
      have g1 := atI_nat (at_getD (ns := iv) (i := n - (i + 1)) (by omega))
      have g2 := atI_nat (at_getD (ns := iv) (i := n) hn)
      rw [show ((n - (i + 1) : Nat) : Int) = (n : Int) - (1 + (i : Int)) by omega] at g1
      refine ⟨_, rfl, _, rfl, _, rfl, _, _, rfl, rfl, _, _, _, .int (iv.getD (n - (i + 1)) 0), rfl, rfl, ht, g1, ?_⟩
      refine ⟨_, rfl, _, rfl, _, _, _, .int (iv.getD n 0), rfl, rfl, ht, g2, rfl, _, rfl, ?_⟩
      refine ite2 (fun hc => ?_) fun hc => ?_
      · have hc' : iv.getD (n - (i + 1)) 0 = iv.getD n 0 := V.int.inj (of_decide_eq_true hc)
        have eb : backCount iv n = i + 1 := by
          have hf : (List.range (min 60 n)).find? (fun c => decide (iv.getD (n - (c + 1)) 0 = iv.getD n 0)) = some i := by
            rw [List.find?_range_eq_some]
            refine ⟨decide_eq_true hc', List.mem_range.mpr hi, fun j hj => ?_⟩
            rw [Bool.not_eq_true']
            exact decide_eq_false (hno j hj)
          unfold backCount
          rw [hf]
        refine ⟨_, rfl, ?_⟩
        rw [eb] at q
        rw [show (1 + (i : Int)) = ((i + 1 : Nat) : Int) by omega]
        exact q
      · have hc' : ¬ iv.getD (n - (i + 1)) 0 = iv.getD n 0 := fun z => hc (decide_eq_true (by rw [z]))
        refine ⟨rfl, fun j hj => ?_, _, rfl⟩
        by_cases e : j = i
        · subst e
          exact hc'
        · exact hno j (by omega)
    · obtain ⟨rfl, hno, z, rfl⟩ := p
      rw [en] at hno
      have eb : backCount iv n = 0 := by
        have hf : (List.range (min 60 n)).find? (fun c => decide (iv.getD (n - (c + 1)) 0 = iv.getD n 0)) = none := by
          rw [List.find?_eq_none]
          intro j hj
          rw [List.mem_range] at hj
          rw [decide_eq_true_eq]
          exact hno j hj
        unfold backCount
        rw [hf]
      rw [eb] at q
      exact q
def sp_read_bytes (K : PySem.W.Frag) : Sp := fun vs H Q _ => ∃ y r, vs = [y] ∧ OReadK K r y H ∧ Few r ∧ NewI H Q (readBytes r)
abbrev N_read_bytes : List Str := ["read", "values", "at", "count"]
theorem sc_read_bytes : FnScope N_read_bytes ["read"] (defScope s_read_bytes) := ⟨rfl, rfl, rfl, by decide +kernel, rfl, by decide +kernel, by decide +kernel⟩
theorem ok_read_bytes (W : T K mg) : Ok P w K mg base (2) "read_bytes" ["read"] (sp_read_bytes K) := by
  refine W.f_read_bytes.F.ok sc_read_bytes (fun vs H Q E h => ?_) (fun cdv A outer s H vs Q E hr h => ?_)
  · obtain ⟨y, r, rfl, _⟩ := h
    rfl
  · obtain ⟨_, r, rfl, ⟨x, dx, t, rfl, hx, ht⟩, hfew, q⟩ := h
    obtain ⟨hok, h5⟩ := id hfew
    refine ⟨_, PSs.nox ((pss_cons
       (ps_set (i := 1) sc_read_bytes.nd rfl (Or.inl rfl) (pe_call (ok_write_number W) (hr.mono (by decide)) (by rfl) W.f_write_number.g W.f_write_number.F.kp W.f_write_number.b .nil pass0 (pa_cons (pe_callB call_len_seq (by rfl) W.n_len (by decide +kernel) (pa_cons (pe_fld (pv 0) rfl) pa_nil)) pa_nil)))
       (pss_cons
       (ps_for PassesOwn.never rfl (pi_range1 rfl W.n_range (pa_cons (pe_callB call_len_seq (by rfl) W.n_len (by decide +kernel) (pa_cons (pe_fld (pv 0) rfl) pa_nil)) pa_nil)) (pg_name (i := 2) sc_read_bytes.nd rfl (Or.inl rfl)) (pss_cons
       (ps_set (i := 3) sc_read_bytes.nd rfl (Or.inl rfl) (pe_call (ok_back_count W) (hr.mono (by decide)) (by rfl) W.f_back_count.g W.f_back_count.F.kp W.f_back_count.b .nil pass0 (pa_cons (pe_fld (pv 0) rfl) (pa_cons (pv 2) pa_nil))))
       (pss_one
       (ps_if (pt_cmpR op_gt (pv 3) pe_int (nomark _)) (pss_one
       (ps_expr (pe_bm PySem.F.plainAttrs_list PySem.F.slot_list_extend PySem.F.type_list_extend mt_extend (pv 1) (pa_cons (pe_call (ok_write_number W) (hr.mono (by decide)) (by rfl) W.f_write_number.g W.f_write_number.F.kp W.f_write_number.b .nil pass0 (pa_cons (pe_op op_mul pe_int (pv 3)) pa_nil)) pa_nil)))) (pss_one
       (ps_expr (pe_bm PySem.F.plainAttrs_list PySem.F.slot_list_extend PySem.F.type_list_extend mt_extend (pv 1) (pa_cons (pe_call (ok_write_number W) (hr.mono (by decide)) (by rfl) W.f_write_number.g W.f_write_number.F.kp W.f_write_number.b .nil pass0 (pa_cons (pe_op op_add (pe_op op_mul pe_int (pe_ix ix_tup (pe_fld (pv 0) rfl) (pv 2) (fun _ _ => rfl))) pe_int) pa_nil)) pa_nil))))))))
       (pss_one
       (ps_ret (pe_op op_cat (pv 1) (pe_call (ok_write_number W) (hr.mono (by decide)) (by rfl) W.f_write_number.g W.f_write_number.F.kp W.f_write_number.b .nil pass0 (pa_cons (pe_fld (pv 0) rfl) pa_nil)))))))), ?_⟩
    refine ⟨_, rfl, _, _, _, _, _, rfl, hx, W.c_Read.cl, W.a_Read_intervals, rfl, _, _, rfl, .inr (SqT.of ht), r.iv.length, by rw [List.length_map]; rfl, by omega, fun H1 o s1 no ho => ?_⟩
    refine ⟨_, rfl, _, _, _, _, _, rfl, s1 _ _ hx, W.c_Read.cl, W.a_Read_intervals, rfl, _, _, rfl, .inr (SqT.of (s1 _ _ ht)), _, rfl, by omega, by rw [List.length_map]; omega, ?_⟩
    have en : (((r.iv.map V.int).length : Nat) : Int).toNat = r.iv.length := by rw [List.length_map]; omega
    have hw0 := wn_len 2 r.iv.length (by omega)
    refine for_range (n := _) (fun i σ H' => Same H H' ∧ H' o = some (.lst ((writeNum r.iv.length ++ ivsBytes r.iv i).map V.int)) ∧ ∃ y z, σ = [some (.ref x), some (.ref o), y, z]) ⟨s1, by rw [ho]; rw [show ivsBytes r.iv 0 = [] from rfl, List.append_nil], _, _, rfl⟩ (fun i σ H' hi p => ?_) fun σ H' p => ?_
    · obtain ⟨s, ho', y, z, rfl⟩ := p
      rw [en] at hi
      have e0 : (0 + (i : Int)) = (i : Int) := by omega
      rw [e0]
      have hiv := iv_nat hok hi
      have hbk := back_ok r.iv i
      have hl1 := ivsBytes_len hok i (by omega)
      have hl2 := ivBytes_len hok hi
      refine ⟨_, rfl, _, _, _, _, _, rfl, s _ _ hx, W.c_Read.cl, W.a_Read_intervals, rfl, _, rfl, t, r.iv, i, rfl, SqT.of (s _ _ ht), hi, by omega, ?_⟩
      refine ⟨_, rfl, _, _, rfl, rfl, _, rfl, ?_⟩
      have fin : ∀ bs, bs = ivBytes r.iv i → ∀ H2 p, Same H' H2 → H' p = none → H2 p = some (.lst (bs.map V.int)) → rExtend (.ref o) [.ref p] H2 fun _ H3 => Same H H3 ∧ H3 o = some (.lst ((writeNum r.iv.length ++ ivsBytes r.iv (i + 1)).map V.int)) ∧ ∃ y z, [some (V.ref x), some (V.ref o), some (V.int (i : Int)), some (V.int (backCount r.iv i : Nat))] = [some (.ref x), some (.ref o), y, z] := fun bs hbs H2 p s2 np hp => by
        refine ⟨_, _, _, _, rfl, rfl, s2 _ _ ho', hp, ?_, Same.mut (s.trans s2) no, ?_, _, _, rfl⟩
        · rw [List.length_map, List.length_map, List.length_append, hbs]
          show _ ≤ 16777216
          omega
        · rw [upd_same, hbs, ← List.map_append, ivsBytes_succ, List.append_assoc]
      refine ite2 (fun hc => ?_) fun hc => ?_
      · have hc' : 0 < backCount r.iv i := by
          have := of_decide_eq_true hc
          omega
        refine ⟨_, rfl, .inl ⟨rfl, _, SqL.of ho'⟩, _, rfl, _, _, rfl, rfl, .inl ⟨by decide, by decide⟩, 2 * backCount r.iv i, by show [V.int (2 * ((backCount r.iv i : Nat) : Int))] = _; rw [Int.natCast_mul]; rfl, by omega, fun H2 p s2 np hp => fin _ ?_ H2 p s2 np hp⟩
        unfold ivBytes
        rw [if_pos hc']
      · have hc' : ¬ 0 < backCount r.iv i := fun z => hc (decide_eq_true (by omega))
        refine ⟨_, rfl, .inl ⟨rfl, _, SqL.of ho'⟩, _, rfl, _, _, _, _, _, rfl, s _ _ hx, W.c_Read.cl, W.a_Read_intervals, rfl, _, rfl, _, _, _, .int (r.iv.getD i 0), rfl, rfl, SqT.of (s _ _ ht), atI_nat (at_getD hi), _, _, rfl, rfl, .inl ⟨by decide, by decide⟩, _, _, rfl, rfl, 2 * (r.iv.getD i 0).toNat + 1, ?_, by omega, fun H2 p s2 np hp => fin _ ?_ H2 p s2 np hp⟩
        · show [V.int (2 * r.iv.getD i 0 + 1)] = _
          congr 2
          omega
        · unfold ivBytes
          rw [if_neg hc']
    · obtain ⟨s, ho', y, z, rfl⟩ := p
      rw [en] at ho'
      have hl1 := ivsBytes_len hok _ (Nat.le_refl r.iv.length)
      have hr3 := wn_len 2 r.rest.toNat (by have := hok.2.2.1; omega)
      refine ⟨_, rfl, _, rfl, _, _, _, _, _, rfl, s _ _ hx, W.c_Read.cl, W.a_Read_rest, rfl, r.rest.toNat, ?_, by have := hok.2.2.1; omega, fun H2 p s2 np hp => ⟨_, _, _, _, rfl, rfl, s2 _ _ ho', hp, ?_, fun p2 np2 => ?_⟩⟩
      · show [V.int r.rest] = [V.int ((r.rest.toNat : Nat) : Int)]
        rw [Int.toNat_of_nonneg hok.2.1]
      · rw [List.length_map, List.length_map, List.length_append]
        show _ ≤ 16777216
        omega
      · have s3 := (s.trans s2)
        refine q _ _ (s3.trans (Same.new np2)) (s3.free np2) ?_
        rw [upd_same, ← List.map_append]
        rfl
end
end KW
end

section
set_option Elab.async false
set_option linter.all false
set_option maxRecDepth 100000
set_option maxHeartbeats 4000000
/-! images: promises. -/
namespace KW
open PySem PySem.Spec PyProof.Rows L2 KR
section
variable {P : Program} {w : World} {K : PySem.W.Frag} {mg : Str → Option Value} {base : Heap}
def sp_track_part (K : PySem.W.Frag) : Sp := fun vs H Q _ => ∃ (t : Addr) (a b : Nat) (y : V) (reads : List RdD), vs = [.ref t, y] ∧ H t = some (.tup [.int (a : Int), .int (b : Int)]) ∧ ORow (OReadK K) reads y H ∧ Reads reads ∧ a < 128 ∧ b < 128 ∧ NewI H Q (trackPart a b reads)
abbrev N_track_part : List Str := ["place", "reads", "values", "read"]
theorem sc_track_part : FnScope N_track_part ["place", "reads"] (defScope s_track_part) := ⟨rfl, rfl, rfl, by decide +kernel, rfl, by decide +kernel, by decide +kernel⟩
theorem ok_track_part (W : T K mg) : Ok P w K mg base (3) "track_part" ["place", "reads"] (sp_track_part K) := by
  refine W.f_track_part.F.ok sc_track_part (fun vs H Q E h => ?_) (fun cdv A outer s H vs Q E hr h => ?_)
  · obtain ⟨t, a, b, y, reads, rfl, _⟩ := h
    rfl
  · obtain ⟨t, a, b, y, reads, rfl, ht, ⟨rl, ys, rfl, hrl, hpr⟩, hok, ha, hb, q⟩ := h
    refine ⟨_, PSs.nox ((pss_cons
       (ps_set (i := 2) sc_track_part.nd rfl (Or.inl rfl) (pe_op op_cat (pe_op op_cat (pe_call (ok_write_number W) (hr.mono (by decide)) (by rfl) W.f_write_number.g W.f_write_number.F.kp W.f_write_number.b .nil pass0 (pa_cons (pe_ix ix_tup (pv 0) pe_int (fun _ _ => rfl)) pa_nil)) (pe_call (ok_write_number W) (hr.mono (by decide)) (by rfl) W.f_write_number.g W.f_write_number.F.kp W.f_write_number.b .nil pass0 (pa_cons (pe_ix ix_tup (pv 0) pe_int (fun _ _ => rfl)) pa_nil))) (pe_call (ok_write_number W) (hr.mono (by decide)) (by rfl) W.f_write_number.g W.f_write_number.F.kp W.f_write_number.b .nil pass0 (pa_cons (pe_callB call_len_seq (by rfl) W.n_len (by decide +kernel) (pa_cons (pv 1) pa_nil)) pa_nil))))
       (pss_cons
       (ps_for PassesOwn.never rfl (pi_list (pv 1)) (pg_name (i := 3) sc_track_part.nd rfl (Or.inl rfl)) (pss_one
       (ps_expr (pe_bm PySem.F.plainAttrs_list PySem.F.slot_list_extend PySem.F.type_list_extend mt_extend (pv 2) (pa_cons (pe_call (ok_read_bytes W) (hr.mono (by decide)) (by rfl) W.f_read_bytes.g W.f_read_bytes.F.kp W.f_read_bytes.b .nil pass0 (pa_cons (pv 3) pa_nil)) pa_nil)))))
       (pss_one
       (ps_ret (pv 2)))))), ?_⟩
    have hlen := Paired.length hpr
    have hrb := readsBytes_le hok.2.2
    have h20 := hok.2.1
    have hmul : 15006 * reads.length ≤ 15006 * 20 := Nat.mul_le_mul_left _ h20
    refine ⟨_, rfl, _, _, _, .int (a : Int), rfl, rfl, SqT.of ht, rfl, a, rfl, by omega, fun H1 p1 s1 np1 hp1 => ?_⟩
    refine ⟨_, rfl, _, _, _, .int (b : Int), rfl, rfl, SqT.of (s1 _ _ ht), rfl, b, rfl, by omega, fun H2 p2 s2 np2 hp2 => ?_⟩
    refine ⟨_, _, _, _, rfl, rfl, s2 _ _ hp1, hp2, (by rw [wn_small ha, wn_small hb]; show 1 + 1 ≤ sizeLine; decide), fun p3 np3 => ?_⟩
    have s3 := Same.new (o := .lst ((writeNum a).map V.int ++ (writeNum b).map V.int)) np3
    have s13 := (s1.trans s2).trans s3
    refine ⟨_, rfl, _, _, rfl, .inl (SqL.of (s13 _ _ hrl)), reads.length, by rw [← hlen]; rfl, by omega, fun H4 p4 s4 np4 hp4 => ?_⟩
    refine ⟨_, _, _, _, rfl, rfl, s4 _ _ upd_same, hp4, (by rw [wn_small ha, wn_small hb, wn_small (n := reads.length) (by omega)]; show 2 + 1 ≤ sizeLine; decide), fun o no => ?_⟩
    have s5 := Same.new (o := .lst ((writeNum a).map V.int ++ (writeNum b).map V.int ++ (writeNum reads.length).map V.int)) no
    have s15 := (s13.trans s4)
    have noH : H o = none := s15.free no
    refine ⟨_, rfl, _, rfl, ⟨_, SqL.of ((s15.trans s5) _ _ hrl)⟩, ?_⟩
    refine for_list (xs := ys) (fun i σ H' => Same H H' ∧ H' o = some (.lst ((writeNum a ++ writeNum b ++ writeNum reads.length ++ (reads.take i).flatMap readBytes).map V.int)) ∧ ∃ z, σ = [some (.ref t), some (.ref rl), some (.ref o), z])
      ⟨s15.trans s5, by rw [upd_same, List.take_zero, ← List.map_append, ← List.map_append, show ([] : List RdD).flatMap readBytes = [] from rfl, List.append_nil], _, rfl⟩ (fun i σ H' _ p => SqL.of (p.1 _ _ hrl)) (fun i x σ H' hx p => ?_) fun σ H' p => ?_
    · obtain ⟨s, ho, z, rfl⟩ := p
      obtain ⟨r, hr', hor⟩ := paired_get' hpr hx
      have hrm := List.mem_of_getElem? hr'
      have hrl' := readBytes_len (hok.2.2 r hrm)
      have htk : ((reads.take i).flatMap readBytes).length ≤ 15006 * 20 := by
        have h1 := readsBytes_le (reads := reads.take i) fun r hr => hok.2.2 r (List.mem_of_mem_take hr)
        rw [List.length_take] at h1
        have h2 : 15006 * min i reads.length ≤ 15006 * 20 := Nat.mul_le_mul_left _ (by omega)
        omega
      refine ⟨_, rfl, .inl ⟨rfl, _, SqL.of ho⟩, _, rfl, x, r, rfl, mono_ORead _ _ _ _ s hor, hok.2.2 r hrm, fun H2 p s2 np hp => ⟨_, _, _, _, rfl, rfl, s2 _ _ ho, hp, ?_, Same.mut (s.trans s2) noH, ?_, _, rfl⟩⟩
      · rw [List.length_map, List.length_map, List.length_append, List.length_append, List.length_append, wn_small ha, wn_small hb, wn_small (n := reads.length) (by omega)]
        show 1 + 1 + 1 + _ + _ ≤ 16777216
        omega
      · rw [upd_same, ← List.map_append, take_more hr', List.flatMap_append, List.append_assoc]
        simp
    · obtain ⟨s, ho, z, rfl⟩ := p
      rw [← hlen, List.take_length] at ho
      exact ⟨_, rfl, q _ _ s noH ho⟩
def sp_first_bytes_of (K : PySem.W.Frag) : Sp := fun vs H Q _ => vs = [.int 40, .str noteA, .int 1] ∧ NewI H Q firstB
abbrev N_first_bytes_of : List Str := ["cell", "note", "count", "values", "sign"]
theorem sc_first_bytes_of : FnScope N_first_bytes_of ["cell", "note", "count"] (defScope s_first_bytes_of) := ⟨rfl, rfl, rfl, by decide +kernel, rfl, by decide +kernel, by decide +kernel⟩
theorem ok_first_bytes_of (W : T K mg) : Ok P w K mg base (2) "first_bytes_of" ["cell", "note", "count"] (sp_first_bytes_of K) := by
  refine W.f_first_bytes_of.F.ok sc_first_bytes_of (fun vs H Q E h => ?_) (fun cdv A outer s H vs Q E hr h => ?_)
  · obtain ⟨rfl, _⟩ := h
    rfl
  · obtain ⟨rfl, q⟩ := h
    refine ⟨_, PSs.nox ((pss_cons
       (ps_set (i := 3) sc_first_bytes_of.nd rfl (Or.inl rfl) (pe_op op_cat (pe_op op_cat (pe_callTy call_list_of (by rfl) W.n_list (by decide +kernel) (pa_cons (pgT W.T_FIRST_BYTES) pa_nil)) (pe_call (ok_write_number W) (hr.mono (by decide)) (by rfl) W.f_write_number.g W.f_write_number.F.kp W.f_write_number.b .nil pass0 (pa_cons (pv 0) pa_nil))) (pe_call (ok_write_number W) (hr.mono (by decide)) (by rfl) W.f_write_number.g W.f_write_number.F.kp W.f_write_number.b .nil pass0 (pa_cons (pe_callB call_len_str (by rfl) W.n_len (by decide +kernel) (pa_cons (pv 1) pa_nil)) pa_nil))))
       (pss_cons
       (ps_expr (pe_bm PySem.F.plainAttrs_list PySem.F.slot_list_extend PySem.F.type_list_extend mt_extend (pv 3) (pa_cons (pe_lc (own := [("sign", 4)]) rfl sc_first_bytes_of.nd (pi_str (pv 1)) (blkOk_by (own := [("sign", 4)]) (N := N_first_bytes_of) (sc := defScope s_first_bytes_of) (by decide +kernel)) (fun _ _ _ _ _ => (pg_name (i := 4) sc_first_bytes_of.nd rfl (Or.inl rfl))) (fun _ _ _ _ _ => pts_nil) (fun _ _ _ _ _ => (pe_callB call_ord (by rfl) W.n_ord (by decide +kernel) (pa_cons (pv 4) pa_nil)))) pa_nil)))
       (pss_one
       (ps_ret (pe_op op_cat (pv 3) (pe_call (ok_write_number W) (hr.mono (by decide)) (by rfl) W.f_write_number.g W.f_write_number.F.kp W.f_write_number.b .nil pass0 (pa_cons (pv 2) pa_nil)))))))), ?_⟩
    refine ⟨_, _, rfl, .inr (W.T_FIRST_BYTES.2.sqT H), fun p1 np1 => ?_⟩
    have s1 := Same.new (o := .lst (vals_FIRST_BYTES.map V.int)) np1
    refine ⟨_, rfl, 40, rfl, by decide, fun H2 p2 s2 np2 hp2 => ?_⟩
    refine ⟨_, _, _, _, rfl, rfl, s2 _ _ upd_same, hp2, (by rw [wn_small (by decide)]; show 3 + 1 ≤ sizeLine; decide), fun p3 np3 => ?_⟩
    have s3 := Same.new (o := .lst (vals_FIRST_BYTES.map V.int ++ (writeNum 40).map V.int)) np3
    refine ⟨_, rfl, _, rfl, (by rw [noteA_len]; decide), 1, (by rw [noteA_len]; rfl), by decide, fun H4 p4 s4 np4 hp4 => ?_⟩
    refine ⟨_, _, _, _, rfl, rfl, s4 _ _ upd_same, hp4, (by rw [wn_small (by decide), wn_small (by decide)]; show 4 + 1 ≤ sizeLine; decide), fun o no => ?_⟩
    have s5 := Same.new (o := .lst (vals_FIRST_BYTES.map V.int ++ (writeNum 40).map V.int ++ (writeNum 1).map V.int)) no
    have s14 := ((s1.trans s2).trans s3).trans s4
    have noH := s14.free no
    refine ⟨_, rfl, .inl ⟨rfl, _, SqL.of upd_same⟩, _, rfl, _, rfl, fun D nD => ?_⟩
    refine lc_str (z := noteA) OInt yes (fun c => (c : Int)) mono_OInt (by rw [noteA_cps]; decide) nD (fun c H6 hc s6 hn k n hk _ => ⟨rfl, _, rfl, _, rfl, rfl, hk rfl _ _ (Same.refl _) rfl⟩) fun H6 N zs s6 s6' nN hD r => ?_
    have e := out_int r
    rw [filter_yes, noteA_cps] at e
    subst e
    have s66 := s6.trans s6'
    refine ⟨_, _, _, _, rfl, rfl, s66 _ _ upd_same, hD, (by rw [wn_small (by decide), wn_small (by decide)]; show 5 + 1 ≤ sizeLine; decide), ?_⟩
    refine ⟨_, rfl, _, rfl, 1, rfl, by decide, fun H7 p7 s7 np7 hp7 => ?_⟩
    refine ⟨_, _, _, _, rfl, rfl, s7 _ _ upd_same, hp7, (by rw [wn_small (by decide), wn_small (by decide)]; show 6 + 1 ≤ sizeLine; decide), fun p8 np8 => ?_⟩
    have sA : Same H H7 := (((Same.mut (s14.trans (s5.trans s66)) noH)).trans s7)
    refine q _ _ (sA.trans (Same.new np8)) (sA.free np8) ?_
    rw [upd_same, wn_small (by decide), wn_small (by decide)]
    rfl
def sp_sealed (K : PySem.W.Frag) : Sp := fun vs H Q _ => ∃ a ns, vs = [.ref a] ∧ H a = some (.lst (ns.map V.int)) ∧ ns.length ≤ 1000000 ∧ NewI H Q (sealedL ns)
abbrev N_sealed : List Str := ["values"]
theorem sc_sealed : FnScope N_sealed ["values"] (defScope s_sealed) := ⟨rfl, rfl, rfl, by decide +kernel, rfl, by decide +kernel, by decide +kernel⟩
theorem ok_sealed (W : T K mg) : Ok P w K mg base (4) "sealed" ["values"] (sp_sealed K) := by
  refine W.f_sealed.F.ok sc_sealed (fun vs H Q E h => ?_) (fun cdv A outer s H vs Q E hr h => ?_)
  · obtain ⟨a, ns, rfl, _⟩ := h
    rfl
  · obtain ⟨a, ns, rfl, ha, hz, q⟩ := h
    refine ⟨_, PSs.nox ((pss_one
       (ps_ret (pe_op op_cat (pv 0) (pe_call (ok_two_bytes W) (hr.mono (by decide)) (by rfl) W.f_two_bytes.g W.f_two_bytes.F.kp W.f_two_bytes.b .nil pass0 (pa_cons (pe_call (ok_crc W) (hr.mono (by decide)) (by rfl) W.f_crc.g W.f_crc.F.kp W.f_crc.b .nil pass0 (pa_cons (pv 0) pa_nil)) pa_nil)))))), ?_⟩
    refine ⟨_, rfl, _, rfl, a, ns, rfl, SqL.of ha, fun H1 s1 => ⟨_, rfl, fun H2 p s2 np hp => ?_⟩⟩
    have s12 := s1.trans s2
    refine ⟨_, _, _, _, rfl, rfl, s12 _ _ ha, hp, ?_, fun p2 np2 => ?_⟩
    · rw [List.length_map, List.length_map]
      show ns.length + 2 ≤ 16777216
      omega
    · refine q _ _ (s12.trans (Same.new np2)) (s12.free np2) ?_
      rw [upd_same, ← List.map_append]
      rfl
def sp_is_note (K : PySem.W.Frag) : Sp := fun vs H Q _ => vs = [.str noteA] ∧ Ret H Q (.bl true)
theorem a_in_signs : 97 ∈ val_SIGNS.cps.toList := by decide +kernel
abbrev N_is_note : List Str := ["note", "sign"]
theorem sc_is_note : FnScope N_is_note ["note"] (defScope s_is_note) := ⟨rfl, rfl, rfl, by decide +kernel, rfl, by decide +kernel, by decide +kernel⟩
theorem ok_is_note (W : T K mg) : Ok P w K mg base (1) "is_note" ["note"] (sp_is_note K) := by
  refine W.f_is_note.F.ok sc_is_note (fun vs H Q E h => ?_) (fun cdv A outer s H vs Q E hr h => ?_)
  · obtain ⟨rfl, _⟩ := h
    rfl
  · obtain ⟨rfl, q⟩ := h
    refine ⟨_, PSs.nox ((pss_one
       (ps_ret (pe_and (pe_cmpR op_le (pe_callB call_len_str (by rfl) W.n_len (by decide +kernel) (pa_cons (pv 0) pa_nil)) (pgi W.i_LONGEST_NOTE) (nomark _)) (pe_one (pe_callB (cr_all rfl) (by rfl) W.n_all (by decide +kernel) (pa_cons (pe_lc (own := [("sign", 1)]) rfl sc_is_note.nd (pi_str (pv 0)) (blkOk_by (own := [("sign", 1)]) (N := N_is_note) (sc := defScope s_is_note) (by decide +kernel)) (fun _ _ _ _ _ => (pg_name (i := 1) sc_is_note.nd rfl (Or.inl rfl))) (fun _ _ _ _ _ => pts_nil) (fun _ _ _ _ _ => (pe_cmpR op_in_sign (pv 1) (pgs W.s_SIGNS) (by rfl)))) pa_nil))))))), ?_⟩
    refine ⟨_, rfl, _, rfl, (by rw [noteA_len]; decide), _, _, rfl, rfl, _, rfl, ifT (by rw [noteA_len]; rfl) ?_⟩
    refine ⟨_, rfl, _, rfl, fun D nD => ?_⟩
    refine lc_str (z := noteA) OV yes (fun _ => V.bl true) mono_OV (by rw [noteA_cps]; decide) nD (fun c H6 hc s6 hn k n hk _ => ⟨rfl, _, rfl, c, _, rfl, rfl, ?_⟩) fun H6 N zs s6 s6' nN hD r => ?_
    · rw [noteA_cps] at hc
      have e : c = 97 := by simpa using hc
      subst e
      show k (.bl (decide (97 ∈ val_SIGNS.cps.toList))) H6
      rw [decide_eq_true a_in_signs]
      exact hk rfl _ _ (Same.refl _) rfl
    · have e := out_V r
      rw [filter_yes, noteA_cps] at e
      subst e
      exact ⟨D, [true], rfl, SqL.of hD, q _ (s6.trans s6')⟩
def sp_is_place (K : PySem.W.Frag) : Sp := fun vs H Q _ => ∃ t : Addr, vs = [.ref t] ∧ H t = some (.tup [.int 2, .int 1]) ∧ Ret H Q (.bl true)
abbrev N_is_place : List Str := ["place"]
theorem sc_is_place : FnScope N_is_place ["place"] (defScope s_is_place) := ⟨rfl, rfl, rfl, by decide +kernel, rfl, by decide +kernel, by decide +kernel⟩
theorem ok_is_place (W : T K mg) : Ok P w K mg base (1) "is_place" ["place"] (sp_is_place K) := by
  refine W.f_is_place.F.ok sc_is_place (fun vs H Q E h => ?_) (fun cdv A outer s H vs Q E hr h => ?_)
  · obtain ⟨t, rfl, _⟩ := h
    rfl
  · obtain ⟨t, rfl, ht, q⟩ := h
    refine ⟨_, PSs.nox ((pss_one
       (ps_ret (pe_and (pe_chain op_le op_le pe_int (pe_ix ix_tup (pv 0) pe_int (fun _ _ => rfl)) (pgi W.i_GREATEST_CYLINDER)) (pe_one (pe_cmpR op_in_seq (pe_ix ix_tup (pv 0) pe_int (fun _ _ => rfl)) (pe_tup (pa_cons pe_int (pa_cons pe_int pa_nil))) (by rfl))))))), ?_⟩
    refine ⟨_, rfl, _, _, _, .int 2, rfl, rfl, SqT.of ht, rfl, _, _, rfl, rfl, _, rfl, ifT rfl ⟨_, _, rfl, rfl, _, rfl, ifT rfl ?_⟩⟩
    refine ⟨_, rfl, _, _, _, .int 1, rfl, rfl, SqT.of ht, rfl, (by show 2 ≤ sizeLine; decide), fun p np => ?_⟩
    exact ⟨p, [.int 0, .int 1], rfl, .inr (SqT.of upd_same), rfl, rfl, q _ (Same.new np)⟩
end
end KW
end

section
set_option Elab.async false
set_option linter.all false
set_option maxRecDepth 100000
set_option maxHeartbeats 4000000
/-! Image: promises. -/
namespace KW
open PySem PySem.Spec PyProof.Rows L2 KR
section
variable {P : Program} {w : World} {K : PySem.W.Frag} {mg : Str → Option Value} {base : Heap}
abbrev key21 : List Key := [Sum.inl 2, Sum.inl 1]
/-- an image at x, its dict at d -/
def OImgK (K : PySem.W.Frag) (reads : List RdD) (x d : Addr) (H : Hp) : Prop := ∃ dx rl, H x = some (.ins (He.ga K "Image") dx [("cell", .int 40), ("note", .str noteA), ("tracks", .ref d)]) ∧
  H d = some (.dT [(key21, .ref rl)]) ∧ ORow (OReadK K) reads (.ref rl) H
theorem OImgK.mono {reads : List RdD} {x d : Addr} {H H' : Hp} (h : OImgK K reads x d H) (s : Same H H') : OImgK K reads x d H' := by
  obtain ⟨dx, rl, h1, h2, h3⟩ := h
  exact ⟨dx, rl, s _ _ h1, s _ _ h2, mono_ORow mono_ORead _ _ _ _ s h3⟩
def sp_Image_init (K : PySem.W.Frag) : Sp := fun vs H Q _ => ∃ x dx d rl reads, vs = [.ref x, .int 40, .str noteA, .ref d] ∧ H x = some (.ins (He.ga K "Image") dx []) ∧ H d = some (.dT [(key21, .ref rl)]) ∧ ORow (OReadK K) reads (.ref rl) H ∧ Reads reads ∧
  ∀ H' d', But x H H' → H d' = none → OImgK K reads x d' H' → Q .non H'
abbrev N_Image_init : List Str := ["self", "cell", "note", "tracks", "place"]
theorem sc_Image_init : FnScope N_Image_init ["self", "cell", "note", "tracks"] (defScope s_Image_init) := ⟨rfl, rfl, rfl, by decide +kernel, rfl, by decide +kernel, by decide +kernel⟩
theorem ok_Image_init (W : T K mg) : OkM P w K mg base (2) "Image" "__init__" ["self", "cell", "note", "tracks"] (sp_Image_init K) := by
  refine W.f_Image_init.F.ok sc_Image_init (fun vs H Q E h => ?_) (fun cdv A outer s H vs Q E hr h => ?_)
  · obtain ⟨x, dx, d, rl, reads, rfl, _⟩ := h
    rfl
  · obtain ⟨x, dx, d, rl, reads, rfl, hx, hd, ⟨rl', ys, erl, hrl, hpr⟩, hok, q⟩ := h
    obtain rfl := V.ref.inj erl
    have hu := hu_of hr
    refine ⟨_, PSs.nox ((pss_cons
       (ps_if (PW.pt (pw_or (pt_not (pt_chain op_le op_le (pgi W.i_SHORTEST_CELL) (pv 1) (pgi W.i_LONGEST_CELL))) (pw_or1 (pt_not (pt_val (pe_call (ok_is_note W) (hr.mono (by decide)) (by rfl) W.f_is_note.g W.f_is_note.F.kp W.f_is_note.b .nil pass0 (pa_cons (pv 2) pa_nil))))))) (pss_one
       ps_never) pss_nil)
       (pss_cons
       (ps_fld (pv 0) (pv 1) rfl)
       (pss_cons
       (ps_fld (pv 0) (pv 2) rfl)
       (pss_cons
       (ps_fld (pv 0) pe_dnewT rfl)
       (pss_one
       (ps_lock (ps_for PassesOwn.never rfl (pi_keys (pv 3)) (pg_name (i := 4) sc_Image_init.nd rfl (Or.inl rfl)) (pss_cons
       (ps_if (PW.pt (pw_or (pt_not (pt_val (pe_call (ok_is_place W) (hr.mono (by decide)) (by rfl) W.f_is_place.g W.f_is_place.F.kp W.f_is_place.b .nil pass0 (pa_cons (pv 4) pa_nil)))) (pw_or1 (pt_not (pt_chain op_le op_le pe_int (pe_callB call_len_seq (by rfl) W.n_len (by decide +kernel) (pa_cons (pe_dget hu (pv 3) (pv 4) (fun _ _ => rfl)) pa_nil)) (pgi W.i_MOST_READS)))))) (pss_one
       ps_never) pss_nil)
       (pss_one
       (ps_dput hu (pe_fld (pv 0) rfl) (pv 4) (pe_callTy call_list_of (by rfl) W.n_list (by decide +kernel) (pa_cons (pe_dget hu (pv 3) (pv 4) (fun _ _ => rfl)) pa_nil)) rfl))))))))))), ?_⟩
    refine ⟨_, rfl, _, _, rfl, rfl, _, rfl, ifT rfl ⟨_, _, rfl, rfl, _, rfl, ?_⟩⟩
    refine ifF (by decide) ?_
    refine ⟨_, rfl, rfl, fun H1 s1 => ⟨_, rfl, ifF (by decide) ?_⟩⟩
    have hx1 := s1 _ _ hx
    -- the fields
    refine ⟨_, rfl, _, rfl, _, _, _, _, rfl, hx1, W.c_Image.cl, W.a_Image_cell, (by show 0 < 1000; decide), ?_⟩
    refine ⟨_, rfl, _, rfl, _, _, _, _, rfl, upd_same, W.c_Image.cl, W.a_Image_note, (by show 1 < 1000; decide), ?_⟩
    rw [upd_upd]
    refine fun d' nd' => ?_
    have hxd' : x ≠ d' := by
      intro z
      rw [← z, upd_same] at nd'
      cases nd'
    have nd1 : H1 d' = none := by rw [upd_ne hxd'.symm] at nd'; exact nd'
    have ndH : H d' = none := s1.free nd1
    refine ⟨_, rfl, _, _, _, _, rfl, by rw [upd_ne hxd']; exact upd_same, W.c_Image.cl, W.a_Image_tracks, (by show 2 < 1000; decide), ?_⟩
    have hdx : d ≠ x := ne_of hd hx (by intro z; cases z)
    have hdd' : d ≠ d' := ne_of_none hd ndH
    -- the heap ahead of the loop
    have b1 : But x H (upd (upd (upd H1 x (.ins (He.ga K "Image") dx [("cell", .int 40), ("note", .str noteA)])) d' (.dT [])) x (.ins (He.ga K "Image") dx [("cell", .int 40), ("note", .str noteA), ("tracks", .ref d')])) := fun b o n e => by
      rw [upd_ne n, upd_ne (ne_of_none e ndH), upd_ne n]
      exact s1 _ _ e
    have hx4 : upd (upd (upd H1 x (.ins (He.ga K "Image") dx [("cell", .int 40), ("note", .str noteA)])) d' (.dT [])) x (.ins (He.ga K "Image") dx [("cell", .int 40), ("note", .str noteA), ("tracks", .ref d')]) x = some (.ins (He.ga K "Image") dx [("cell", .int 40), ("note", .str noteA), ("tracks", .ref d')]) := upd_same
    have hd'4 : upd (upd (upd H1 x (.ins (He.ga K "Image") dx [("cell", .int 40), ("note", .str noteA)])) d' (.dT [])) x (.ins (He.ga K "Image") dx [("cell", .int 40), ("note", .str noteA), ("tracks", .ref d')]) d' = some (.dT []) := by rw [upd_ne hxd'.symm, upd_same]
    show tLock _ _ _ (upd (upd (upd H1 x (.ins (He.ga K "Image") dx [("cell", .int 40), ("note", .str noteA)])) d' (.dT [])) x (.ins (He.ga K "Image") dx [("cell", .int 40), ("note", .str noteA), ("tracks", .ref d')]))
    revert b1 hx4 hd'4
    generalize upd (upd (upd H1 x (.ins (He.ga K "Image") dx [("cell", .int 40), ("note", .str noteA)])) d' (.dT [])) x (.ins (He.ga K "Image") dx [("cell", .int 40), ("note", .str noteA), ("tracks", .ref d')]) = H4
    intro b1 hx4 hd'4
    have hd4 := b1 _ _ hdx hd
    refine ⟨d, _, hd4, trivial, fun od => ⟨_, rfl, d, od, rfl, .inr ⟨_, upd_same, ?_⟩⟩⟩
    have hrlx : rl ≠ x := ne_of hrl hx (by intro z; cases z)
    have hrld : rl ≠ d := ne_of hrl hd (by intro z; cases z)
    -- the heap with the walked dict locked
    have hxl : upd H4 d (.frz od (.dT [(key21, .ref rl)])) x = some (.ins (He.ga K "Image") dx [("cell", .int 40), ("note", .str noteA), ("tracks", .ref d')]) := by rw [upd_ne hdx.symm]; exact hx4
    have hd'l : upd H4 d (.frz od (.dT [(key21, .ref rl)])) d' = some (.dT []) := by rw [upd_ne hdd'.symm]; exact hd'4
    have hrll : upd H4 d (.frz od (.dT [(key21, .ref rl)])) rl = some (.lst ys) := by rw [upd_ne hrld]; exact b1 _ _ hrlx hrl
    have hdl : upd H4 d (.frz od (.dT [(key21, .ref rl)])) d = some (.frz od (.dT [(key21, .ref rl)])) := upd_same
    obtain ⟨Hl, eHl⟩ : ∃ Hl, Hl = upd H4 d (.frz od (.dT [(key21, .ref rl)])) := ⟨_, rfl⟩
    rw [← eHl] at hxl hd'l hrll hdl ⊢
    have hlen := Paired.length hpr
    obtain ⟨ho1, ho2, _⟩ := hok
    refine for_it walk_keysT (fun i σ H' => (i = 0 ∧ H' = Hl ∧ ∃ z, σ = [some (.ref x), some (.int 40), some (.str noteA), some (.ref d), z]) ∨
      (i = 1 ∧ ∃ H2 l, Same Hl H2 ∧ H2 l = none ∧ H' = upd (upd H2 l (.lst ys)) d' (.dT [(key21, .ref l)]))) (.inl ⟨rfl, rfl, _, rfl⟩) (fun i σ H' _ p => ?_) (fun i y σ H' H'' hi p hy => ?_) fun σ H' p => ?_
    · rcases p with ⟨_, rfl, _⟩ | ⟨_, H2, l, s2, nl, rfl⟩
      · exact hdl
      · rw [upd_ne hdd', upd_ne (ne_of_none (s2 _ _ hdl) nl)]
        exact s2 _ _ hdl
    · have hi0 : i = 0 := by
        have : i < 1 := hi
        omega
      subst hi0
      obtain ⟨rfl, k, v, qa, hk, rfl, hq⟩ := hy
      obtain ⟨rfl, rfl⟩ : k = key21 ∧ v = .ref rl := by
        have e := Option.some.inj hk
        injection e with e1 e2
        exact ⟨e1.symm, e2.symm⟩
      rcases p with ⟨_, rfl, z, rfl⟩ | ⟨h1, _⟩
      · refine ⟨_, rfl, qa, rfl, hq, fun H2 s2 => ⟨_, rfl, iteF ?_⟩⟩
        refine ⟨_, rfl, _, rfl, d, .ref rl, rfl, .inr ⟨_, key21, qa, .inr ⟨_, s2 _ _ hdl⟩, rfl, s2 _ _ hq, rfl⟩, _, _, rfl, .inl (SqL.of (s2 _ _ hrll)), _, _, rfl, rfl, _, rfl, ifT (decide_eq_true (by omega)) ⟨_, _, rfl, rfl, _, rfl, iteNS (by omega) ?_⟩⟩
        refine ⟨_, rfl, _, rfl, d, .ref rl, rfl, .inr ⟨_, key21, qa, .inr ⟨_, s2 _ _ hdl⟩, rfl, s2 _ _ hq, rfl⟩, _, _, rfl, .inl (SqL.of (s2 _ _ hrll)), fun l nl => ?_⟩
        have sl := Same.new (o := .lst ys) nl
        refine ⟨_, rfl, _, _, _, _, _, rfl, sl _ _ (s2 _ _ hxl), W.c_Image.cl, W.a_Image_tracks, rfl, _, rfl, d', _, rfl, DPut.t (k := key21) (sl _ _ (s2 _ _ hd'l)) (sl _ _ (s2 _ _ hq)) (by show 0 < sizeLine; decide), ?_⟩
        exact .inr ⟨rfl, H2, l, s2, nl, rfl⟩
      · exact absurd h1 (by decide)
    · rcases p with ⟨h1, _⟩ | ⟨_, H2, l, s2, nl, rfl⟩
      · exact absurd h1 (by show ¬ (1 : Nat) = 0; decide)
      · have hld : d ≠ l := ne_of_none (s2 _ _ hdl) nl
        have hxl2 : x ≠ l := ne_of_none (s2 _ _ hxl) nl
        have hd'l2 : l ≠ d' := (ne_of_none (s2 _ _ hd'l) nl).symm
        refine ⟨?_, ?_⟩
        · rw [upd_ne hdd', upd_ne hld]
          exact s2 _ _ hdl
        · have bf : But x H (upd (upd (upd H2 l (.lst ys)) d' (.dT [(key21, .ref l)])) d (.dT [(key21, .ref rl)])) := fun b o n e => by
            by_cases hbd : b = d
            · subst hbd
              rw [upd_same, ← e, hd]
            · rw [upd_ne hbd, upd_ne (ne_of_none e ndH)]
              have hl' : Hl b = some o := by
                rw [eHl, upd_ne hbd]
                exact b1 _ _ n e
              rw [upd_ne (ne_of_none (s2 _ _ hl') nl)]
              exact s2 _ _ hl'
          refine q _ d' bf ndH ⟨dx, l, ?_, ?_, l, ys, rfl, ?_, Paired.mapP hpr fun r y z => ?_⟩
          · rw [upd_ne hdx.symm, upd_ne hxd', upd_ne hxl2]
            exact s2 _ _ hxl
          · rw [upd_ne hdd'.symm, upd_same]
          · rw [upd_ne hld.symm, upd_ne hd'l2, upd_same]
          · obtain ⟨x0, dx0, t0, rfl, h0, ht0⟩ := z
            exact ⟨x0, dx0, t0, rfl, bf _ _ (ne_of h0 hx (by intro z; injection z with _ _ z; cases z)) h0, bf _ _ (ne_of ht0 hx (by intro z; cases z)) ht0⟩
/-- two images of the same reads -/
def ImgEq (K : PySem.W.Frag) (a b : Addr) (H : Hp) : Prop := ∃ reads d e, OImgK K reads a d H ∧ OImgK K reads b e H ∧ d ≠ e
def RdEq (K : PySem.W.Frag) (a b : Addr) (H : Hp) : Prop := ∃ r, OReadK K r (.ref a) H ∧ OReadK K r (.ref b) H
theorem mon_RdEq (K : PySem.W.Frag) : Mon (DIns (He.ga K "Read") (RdEq K)) := mon_ins fun a b H H' e ⟨r, h1, h2⟩ => ⟨r, mono_ORead _ _ _ _ e h1, mono_ORead _ _ _ _ e h2⟩
theorem dins_reads {K : PySem.W.Frag} {H : Hp} {r : RdD} {x y : V} (h1 : OReadK K r x H) (h2 : OReadK K r y H) : DIns (He.ga K "Read") (RdEq K) x y H := by
  obtain ⟨a, dx, t, rfl, hx, ht⟩ := id h1
  obtain ⟨b, dy, u, rfl, hy, hu⟩ := id h2
  exact ⟨a, b, dx, dy, _, _, rfl, rfl, hx, hy, r, h1, h2⟩
theorem prs_reads {K : PySem.W.Frag} {H : Hp} {reads : List RdD} {xs ys : List V} (h1 : Paired (fun r y => OReadK K r y H) reads xs) (h2 : Paired (fun r y => OReadK K r y H) reads ys) : Prs (DIns (He.ga K "Read") (RdEq K)) xs ys H := by
  refine ⟨by rw [← Paired.length h1, ← Paired.length h2], fun i x y hx hy => ?_⟩
  obtain ⟨r, hr, o1⟩ := paired_get' h1 hx
  obtain ⟨r', hr', o2⟩ := paired_get' h2 hy
  rw [hr] at hr'
  obtain rfl := Option.some.inj hr'
  exact dins_reads o1 o2
theorem dlist_reads {K : PySem.W.Frag} {H : Hp} {reads : List RdD} {x y : V} (h1 : ORow (OReadK K) reads x H) (h2 : ORow (OReadK K) reads y H) : DList (DIns (He.ga K "Read") (RdEq K)) x y H := by
  obtain ⟨p, xs, rfl, hp, hpp⟩ := h1
  obtain ⟨q, ys, rfl, hq, hqq⟩ := h2
  exact ⟨p, q, xs, ys, rfl, rfl, hp, hq, prs_reads hpp hqq⟩
/-- an object that is no dict stands when a dict is locked -/
theorem rows_locked {K : PySem.W.Frag} {H : Hp} {d : Addr} {kvs : List (List Key × V)} {u : HO} {reads : List RdD} {y : V} (hd : H d = some (.dT kvs)) (h : ORow (OReadK K) reads y H) : ORow (OReadK K) reads y (upd H d u) := by
  obtain ⟨p, ys, rfl, hp, hpp⟩ := h
  refine ⟨p, ys, rfl, by rw [upd_ne (ne_of hp hd (by intro z; cases z))]; exact hp, Paired.mapP hpp fun r y z => ?_⟩
  obtain ⟨a, dx, t, rfl, hx, ht⟩ := z
  exact ⟨a, dx, t, rfl, by rw [upd_ne (ne_of hx hd (by intro z; cases z))]; exact hx, by rw [upd_ne (ne_of ht hd (by intro z; cases z))]; exact ht⟩
/-- Read.__eq__ in the form that == asks -/
theorem ok_Read_eq' (W : T K mg) : OkM P w K mg base 1 "Read" "__eq__" ["self", "other"] (spEq (RdEq K)) := (ok_Read_eq W).imp fun vs H Q E h => by
  obtain ⟨a, b, rfl, ⟨r, h1, h2⟩, q⟩ := h
  exact ⟨_, _, r, r, rfl, h1, h2, by rw [decide_eq_true rfl]; exact q _ Ext.rfl'⟩
abbrev N_Image_eq : List Str := ["self", "other"]
theorem sc_Image_eq : FnScope N_Image_eq ["self", "other"] (defScope s_Image_eq) := ⟨rfl, rfl, rfl, by decide +kernel, rfl, by decide +kernel, by decide +kernel⟩
theorem ok_Image_eq (W : T K mg) : OkM P w K mg base 6 "Image" "__eq__" ["self", "other"] (spEq (ImgEq K)) := by
  refine W.f_Image_eq.F.ok sc_Image_eq (fun vs H Q E h => ?_) (fun cdv A outer s H vs Q E hr h => ?_)
  · obtain ⟨a, b, rfl, _⟩ := h
    rfl
  · obtain ⟨a, b, rfl, ⟨reads, d, e, ⟨dx, rl, h1, h2, h3⟩, ⟨dy, rm, g1, g2, g3⟩, hde⟩, q⟩ := h
    refine ⟨_, PSs.nox ((pss_one
       (ps_ret (pe_and (pe_callB (C8.call_isC W.is_Image) (by rfl) W.n_isinstance (by decide +kernel) (pa_cons (pv 1) (pa_cons (pgc W.c_Image) pa_nil))) (pe_and (pe_cmpR op_eq (pe_fld (pv 0) rfl) (pe_fld (pv 1) rfl) (nomark _)) (pe_and (pe_cmpR op_eq (pe_fld (pv 0) rfl) (pe_fld (pv 1) rfl) (nomark _)) (pe_one (pe_cmpR (op_eq1 (eqG_list (mon_RdEq K) (eqG_ins (n := 1) (ok_Read_eq' W) W.f_Read_eq.M.at_ W.f_Read_eq.M.fn W.f_Read_eq.b pass0)) (hr.mono (by decide))) (pe_fld (pv 0) rfl) (pe_fld (pv 1) rfl) (nomark _))))))))), ?_⟩
    refine ⟨_, rfl, _, _, _, rfl, g1, _, rfl, iteT ?_⟩
    refine ⟨_, rfl, _, _, _, _, _, rfl, h1, W.c_Image.cl, W.a_Image_cell, rfl, _, rfl, _, _, _, _, _, rfl, g1, W.c_Image.cl, W.a_Image_cell, rfl, rfl, _, rfl, ifT rfl ?_⟩
    refine ⟨_, rfl, _, _, _, _, _, rfl, h1, W.c_Image.cl, W.a_Image_note, rfl, _, rfl, _, _, _, _, _, rfl, g1, W.c_Image.cl, W.a_Image_note, rfl, rfl, _, rfl, ifT (by simp) ?_⟩
    refine ⟨_, rfl, _, _, _, _, _, rfl, h1, W.c_Image.cl, W.a_Image_tracks, rfl, _, rfl, _, _, _, _, _, rfl, g1, W.c_Image.cl, W.a_Image_tracks, rfl, ?_⟩
    exact ⟨d, e, key21, .ref rl, .ref rm, rfl, rfl, hde, h2, g2, fun od => dlist_reads (rows_locked h2 h3) (rows_locked h2 g3), q⟩
def sp_Image_places (K : PySem.W.Frag) : Sp := fun vs H Q _ => ∃ x d reads, vs = [.ref x] ∧ OImgK K reads x d H ∧ ∀ H' p c, Same H H' → H p = none → H' p = some (.lst [.ref c]) → H' c = some (.tup [.int 2, .int 1]) → Q (.ref p) H'
abbrev N_Image_places : List Str := ["self"]
theorem sc_Image_places : FnScope N_Image_places ["self"] (defScope s_Image_places) := ⟨rfl, rfl, rfl, by decide +kernel, rfl, by decide +kernel, by decide +kernel⟩
theorem ok_Image_places (W : T K mg) : OkM P w K mg base (1) "Image" "places" ["self"] (sp_Image_places K) := by
  refine W.f_Image_places.F.ok sc_Image_places (fun vs H Q E h => ?_) (fun cdv A outer s H vs Q E hr h => ?_)
  · obtain ⟨x, d, reads, rfl, _⟩ := h
    rfl
  · obtain ⟨x, d, reads, rfl, ⟨dx, rl, h1, h2, h3⟩, q⟩ := h
    refine ⟨_, PSs.nox ((pss_one
       (ps_ret (pe_callB (KR.cr_sorted1 rfl) (by rfl) W.n_sorted (by decide +kernel) (pa_cons (pe_fld (pv 0) rfl) pa_nil))))), ?_⟩
    refine ⟨_, rfl, _, _, _, _, _, rfl, h1, W.c_Image.cl, W.a_Image_tracks, rfl, d, d, .ref rl, [2, 1], rfl, h2, ⟨by decide, by decide⟩, fun p c np hc => ?_⟩
    exact q _ p c (Same.new np) np upd_same (Same.new np _ _ hc)
def sp_Image_reads (K : PySem.W.Frag) : Sp := fun vs H Q _ => ∃ x d reads t, vs = [.ref x, .ref t] ∧ OImgK K reads x d H ∧ H t = some (.tup [.int 2, .int 1]) ∧ ∀ H' y, Same H H' → ORow (OReadK K) reads y H' → Q y H'
abbrev N_Image_reads : List Str := ["self", "place"]
theorem sc_Image_reads : FnScope N_Image_reads ["self", "place"] (defScope s_Image_reads) := ⟨rfl, rfl, rfl, by decide +kernel, rfl, by decide +kernel, by decide +kernel⟩
theorem ok_Image_reads (W : T K mg) : OkM P w K mg base (1) "Image" "reads" ["self", "place"] (sp_Image_reads K) := by
  refine W.f_Image_reads.F.ok sc_Image_reads (fun vs H Q E h => ?_) (fun cdv A outer s H vs Q E hr h => ?_)
  · obtain ⟨x, d, reads, t, rfl, _⟩ := h
    rfl
  · obtain ⟨x, d, reads, t, rfl, ⟨dx, rl, h1, h2, h3⟩, ht, q⟩ := h
    have hu := hu_of hr
    refine ⟨_, PSs.nox ((pss_one
       (ps_ret (pe_callTy call_list_of (by rfl) W.n_list (by decide +kernel) (pa_cons (pe_dget2 hu (pe_fld (pv 0) rfl) (pv 1) (pe_lst pa_nil) ⟨rfl, rfl, rfl, rfl⟩) pa_nil))))), ?_⟩
    obtain ⟨p, ys, e, hp, hpp⟩ := h3
    obtain rfl := V.ref.inj e
    refine ⟨_, rfl, _, _, _, _, _, rfl, h1, W.c_Image.cl, W.a_Image_tracks, rfl, d, rfl, .inr ⟨_, .inl h2⟩, _, rfl, Nat.zero_le _, fun p0 np0 => ?_⟩
    have s0 := Same.new (o := .lst []) np0
    refine ⟨some (.ref rl), .inr ⟨_, key21, t, .inl (s0 _ _ h2), rfl, s0 _ _ ht, rfl⟩, _, _, rfl, .inl (SqL.of (s0 _ _ hp)), fun l nl => ?_⟩
    have s1 := s0.trans (Same.new (o := .lst ys) nl)
    exact q _ _ s1 ⟨l, ys, rfl, upd_same, Paired.mapP hpp fun r y z => mono_ORead _ _ _ _ s1 z⟩
def sp_image_bytes (K : PySem.W.Frag) : Sp := fun vs H Q _ => ∃ x d reads, vs = [.ref x] ∧ OImgK K reads x d H ∧ Reads reads ∧ NewI H Q (imageBytes reads)
abbrev N_image_bytes : List Str := ["image", "values", "place"]
theorem sc_image_bytes : FnScope N_image_bytes ["image"] (defScope s_image_bytes) := ⟨rfl, rfl, rfl, by decide +kernel, rfl, by decide +kernel, by decide +kernel⟩
theorem ok_image_bytes (W : T K mg) : Ok P w K mg base (5) "image_bytes" ["image"] (sp_image_bytes K) := by
  refine W.f_image_bytes.F.ok sc_image_bytes (fun vs H Q E h => ?_) (fun cdv A outer s H vs Q E hr h => ?_)
  · obtain ⟨x, d, reads, rfl, _⟩ := h
    rfl
  · obtain ⟨x, d, reads, rfl, hi, hok, q⟩ := h
    obtain ⟨dx, rl, h1, h2, h3⟩ := id hi
    refine ⟨_, PSs.nox ((pss_cons
       (ps_set (i := 1) sc_image_bytes.nd rfl (Or.inl rfl) (pe_call (ok_sealed W) (hr.mono (by decide)) (by rfl) W.f_sealed.g W.f_sealed.F.kp W.f_sealed.b .nil pass0 (pa_cons (pe_call (ok_first_bytes_of W) (hr.mono (by decide)) (by rfl) W.f_first_bytes_of.g W.f_first_bytes_of.F.kp W.f_first_bytes_of.b .nil pass0 (pa_cons (pe_fld (pv 0) rfl) (pa_cons (pe_fld (pv 0) rfl) (pa_cons (pe_callB call_len_seq (by rfl) W.n_len (by decide +kernel) (pa_cons (pe_meth0 (pv 0) W.c_Image.cl W.f_Image_places.M (ok_Image_places W) (hr.mono (by decide)) W.f_Image_places.b .nil pass0) pa_nil)) pa_nil)))) pa_nil)))
       (pss_cons
       (ps_for PassesOwn.never rfl (pi_list (pe_meth0 (pv 0) W.c_Image.cl W.f_Image_places.M (ok_Image_places W) (hr.mono (by decide)) W.f_Image_places.b .nil pass0)) (pg_name (i := 2) sc_image_bytes.nd rfl (Or.inl rfl)) (pss_one
       (ps_expr (pe_bm PySem.F.plainAttrs_list PySem.F.slot_list_extend PySem.F.type_list_extend mt_extend (pv 1) (pa_cons (pe_call (ok_sealed W) (hr.mono (by decide)) (by rfl) W.f_sealed.g W.f_sealed.F.kp W.f_sealed.b .nil pass0 (pa_cons (pe_call (ok_track_part W) (hr.mono (by decide)) (by rfl) W.f_track_part.g W.f_track_part.F.kp W.f_track_part.b .nil pass0 (pa_cons (pv 2) (pa_cons (pe_meth (pv 0) W.c_Image.cl W.f_Image_reads.M (ok_Image_reads W) (hr.mono (by decide)) W.f_Image_reads.b .nil pass0 (pa_cons (pv 2) pa_nil)) pa_nil))) pa_nil)) pa_nil)))))
       (pss_one
       (ps_ret (pv 1)))))), ?_⟩
    refine ⟨_, rfl, _, _, _, _, _, rfl, h1, W.c_Image.cl, W.a_Image_cell, rfl, _, rfl, _, _, _, _, _, rfl, h1, W.c_Image.cl, W.a_Image_note, rfl, ?_⟩
    refine ⟨_, rfl, _, _, _, rfl, h1, rfl, x, d, reads, rfl, hi, fun H1 p c s1 np hp hc => ⟨_, _, rfl, .inl (SqL.of hp), rfl, fun H2 p2 s2 np2 hp2 => ⟨p2, firstB, rfl, hp2, by decide, fun H3 o s3 no ho => ?_⟩⟩⟩
    have s13 := (s1.trans s2).trans s3
    have noH := (s1.trans s2).free no
    have hi3 := hi.mono s13
    refine ⟨_, rfl, _, _, _, rfl, s13 _ _ h1, rfl, x, d, reads, rfl, hi3, fun H4 p4 c4 s4 np4 hp4 hc4 => ⟨_, rfl, ⟨_, SqL.of hp4⟩, ?_⟩⟩
    have hpo : p4 ≠ o := (ne_of_none ho np4).symm
    have hco : c4 ≠ o := ne_of hc4 (s4 _ _ ho) (by intro z; cases z)
    refine for_list (xs := [.ref c4]) (fun i σ H' => But o H4 H' ∧ H' o = some (.lst ((sealedL firstB ++ (if i = 0 then [] else sealedL (trackPart 2 1 reads))).map V.int)) ∧ ∃ z, σ = [some (.ref x), some (.ref o), z]) ⟨But.refl, by rw [if_pos rfl, List.append_nil]; exact s4 _ _ ho, _, rfl⟩ (fun i σ H' _ p => SqL.of (p.1 _ _ hpo hp4)) (fun i y σ H' hy p => ?_) fun σ H' p => ?_
    · obtain ⟨b, ho', z, rfl⟩ := p
      have hi0 : i = 0 ∧ y = .ref c4 := by
        cases i with
        | zero => exact ⟨rfl, (Option.some.inj hy).symm⟩
        | succ i => simp at hy
      obtain ⟨rfl, rfl⟩ := hi0
      rw [if_pos rfl, List.append_nil] at ho'
      have sH : Same H H' := ((But.of (s13.trans s4)).trans b).same noH
      have hi5 := hi.mono sH
      have hc5 := b _ _ hco hc4
      refine ⟨_, rfl, .inl ⟨rfl, _, SqL.of ho'⟩, _, rfl, _, rfl, _, _, _, rfl, sH _ _ h1, rfl, _, rfl, x, d, reads, c4, rfl, hi5, hc5, fun H6 y6 s6 ho6 => ?_⟩
      refine ⟨c4, 2, 1, y6, reads, rfl, s6 _ _ hc5, ho6, hok, by decide, by decide, fun H7 p7 s7 np7 hp7 => ⟨p7, _, rfl, hp7, ?_, fun H8 p8 s8 np8 hp8 => ?_⟩⟩
      · have := trackPart_len (a := 2) (b := 1) (by decide) (by decide) hok
        omega
      · have s68 := (s6.trans s7).trans s8
        refine ⟨_, _, _, _, rfl, rfl, s68 _ _ ho', hp8, ?_, But.upd (b.step s68), ?_, _, rfl⟩
        · have := trackPart_len (a := 2) (b := 1) (by decide) (by decide) hok
          rw [List.length_map, List.length_map]
          unfold sealedL
          rw [List.length_append, List.length_append]
          show 7 + 2 + (_ + 2) ≤ 16777216
          omega
        · rw [upd_same, if_neg (by decide), ← List.map_append]
    · obtain ⟨b, ho', z, rfl⟩ := p
      exact ⟨_, rfl, q _ _ (((But.of (s13.trans s4)).trans b).same noH) noH ho'⟩
end
end KW
end

section
set_option Elab.async false
set_option linter.all false
set_option maxRecDepth 100000
set_option maxHeartbeats 4000000
/-! images, the reading side: promises. -/
namespace KW
open PySem PySem.Spec PyProof.Rows L2 KR
/-! ### the mathematics -/
def ivNum (iv : List Int) (n : Nat) : Nat := if 0 < backCount iv n then 2 * backCount iv n else 2 * (iv.getD n 0).toNat + 1
theorem ivBytes_num (iv : List Int) (n : Nat) : ivBytes iv n = writeNum (ivNum iv n) := by
  unfold ivBytes ivNum
  split <;> rfl
theorem drop_app {α : Type} {full a b : List α} {i : Nat} (h : full.drop i = a ++ b) : full.drop (i + a.length) = b := by
  rw [← List.drop_drop, h, List.drop_left]
theorem drop_le {α : Type} {full a b : List α} {i : Nat} (h : full.drop i = a ++ b) (hp : 0 < a.length) : i + a.length ≤ full.length := by
  have e := congrArg List.length h
  rw [List.length_drop, List.length_append] at e
  omega
/-- the bytes of the intervals from the n-th on -/
def ivsFrom (iv : List Int) (n : Nat) : List Int := ((List.range iv.length).drop n).flatMap (ivBytes iv)
theorem ivsFrom_zero (iv : List Int) : ivsFrom iv 0 = ivsBytes iv iv.length := rfl
theorem ivsFrom_step {iv : List Int} {n : Nat} (h : n < iv.length) : ivsFrom iv n = ivBytes iv n ++ ivsFrom iv (n + 1) := by
  unfold ivsFrom
  rw [List.drop_eq_getElem_cons (by rw [List.length_range]; exact h), List.flatMap_cons, List.getElem_range]
theorem ivsFrom_end (iv : List Int) : ivsFrom iv iv.length = [] := by
  unfold ivsFrom
  rw [List.drop_eq_nil_of_le (by rw [List.length_range]; exact Nat.le_refl _)]
  rfl
theorem atI_neg {ns : List Int} {b : Nat} (h1 : 0 < b) (h2 : b ≤ ns.length) : atI (ns.map V.int) (-((b : Nat) : Int)) = some (.int (ns.getD (ns.length - b) 0)) := by
  have e : ixN (ns.map V.int).length (-((b : Nat) : Int)) = some (ns.length - b) := by
    unfold ixN
    rw [List.length_map, if_neg (by omega), if_pos (by omega)]
    congr 1
    omega
  unfold atI
  rw [e]
  exact at_getD (by omega)
theorem getD_take {ns : List Int} {i j : Nat} (h : j < i) : (ns.take i).getD j 0 = ns.getD j 0 := by
  rw [List.getD_eq_getElem?_getD, List.getD_eq_getElem?_getD, List.getElem?_take_of_lt h]
section
variable {P : Program} {w : World} {K : PySem.W.Frag} {mg : Str → Option Value} {base : Heap}
/-- a reader at x over the bytes at l, at the place at' -/
def ORdrK (K : PySem.W.Frag) (full : List Int) (at' : Nat) (x l : Addr) (H : Hp) : Prop := ∃ dx, H x = some (.ins (He.ga K "ImageReader") dx [("row", .ref l), ("at", .int (at' : Int))]) ∧ H l = some (.lst (full.map V.int))
theorem ORdrK.mono {full : List Int} {at' : Nat} {x l : Addr} {H H' : Hp} (h : ORdrK K full at' x l H) (s : Same H H') : ORdrK K full at' x l H' := by
  obtain ⟨dx, h1, h2⟩ := h
  exact ⟨dx, s _ _ h1, s _ _ h2⟩
def sp_ImageReader_init (K : PySem.W.Frag) : Sp := fun vs H Q _ => ∃ x dx a full, vs = [.ref x, .ref a] ∧ H x = some (.ins (He.ga K "ImageReader") dx []) ∧ H a = some (.lst (full.map V.int)) ∧
  ∀ H' l, But x H H' → H l = none → ORdrK K full 0 x l H' → Q .non H'
abbrev N_ImageReader_init : List Str := ["self", "values"]
theorem sc_ImageReader_init : FnScope N_ImageReader_init ["self", "values"] (defScope s_ImageReader_init) := ⟨rfl, rfl, rfl, by decide +kernel, rfl, by decide +kernel, by decide +kernel⟩
theorem ok_ImageReader_init (W : T K mg) : OkM P w K mg base (1) "ImageReader" "__init__" ["self", "values"] (sp_ImageReader_init K) := by
  refine W.f_ImageReader_init.F.ok sc_ImageReader_init (fun vs H Q E h => ?_) (fun cdv A outer s H vs Q E hr h => ?_)
  · obtain ⟨x, dx, a, full, rfl, _⟩ := h
    rfl
  · obtain ⟨x, dx, a, full, rfl, hx, ha, q⟩ := h
    refine ⟨_, PSs.nox ((pss_cons
       (ps_fld (pv 0) (pe_callTy call_list_of (by rfl) W.n_list (by decide +kernel) (pa_cons (pv 1) pa_nil)) rfl)
       (pss_one
       (ps_fld (pv 0) pe_int rfl)))), ?_⟩
    refine ⟨_, rfl, _, _, rfl, .inl (SqL.of ha), fun l nl => ?_⟩
    have sl := Same.new (o := .lst (full.map V.int)) nl
    have hxl : x ≠ l := ne_of_none hx nl
    refine ⟨_, rfl, _, _, _, _, rfl, sl _ _ hx, W.c_ImageReader.cl, W.a_ImageReader_row, (by show 0 < 1000; decide), ?_⟩
    refine ⟨_, rfl, _, _, _, _, rfl, upd_same, W.c_ImageReader.cl, W.a_ImageReader_at, (by show 1 < 1000; decide), ?_⟩
    rw [upd_upd]
    exact q _ l (But.upd (But.of sl)) nl ⟨dx, upd_same, by rw [upd_ne hxl.symm, upd_same]⟩
def sp_ImageReader_number (K : PySem.W.Frag) : Sp := fun vs H Q _ => ∃ x l full at' n post, vs = [.ref x] ∧ ORdrK K full at' x l H ∧ full.length ≤ 1000000 ∧ full.drop at' = writeNum n ++ post ∧
  ∀ H', But x H H' → ORdrK K full (at' + (writeNum n).length) x l H' → Q (.int (n : Int)) H'
abbrev N_ImageReader_number : List Str := ["self", "number"]
theorem sc_ImageReader_number : FnScope N_ImageReader_number ["self"] (defScope s_ImageReader_number) := ⟨rfl, rfl, rfl, by decide +kernel, rfl, by decide +kernel, by decide +kernel⟩
theorem ok_ImageReader_number (W : T K mg) : OkM P w K mg base (2) "ImageReader" "number" ["self"] (sp_ImageReader_number K) := by
  refine W.f_ImageReader_number.F.ok sc_ImageReader_number (fun vs H Q E h => ?_) (fun cdv A outer s H vs Q E hr h => ?_)
  · obtain ⟨x, l, full, at', n, post, rfl, _⟩ := h
    rfl
  · obtain ⟨x, l, full, at', n, post, rfl, ⟨dx, hx, hl⟩, hz, hd, q⟩ := h
    refine ⟨_, PSs.nox ((pss_cons
       (ps_asg (pe_call (ok_read_number W) (hr.mono (by decide)) (by rfl) W.f_read_number.g W.f_read_number.F.kp W.f_read_number.b .nil pass0 (pa_cons (pe_fld (pv 0) rfl) (pa_cons (pe_fld (pv 0) rfl) pa_nil))) (pg_tup rfl (pgs_cons (pg_name (i := 1) sc_ImageReader_number.nd rfl (Or.inl rfl)) (pgs_cons (pg_attr (pv 0)) pgs_nil))))
       (pss_one
       (ps_ret (pv 1))))), ?_⟩
    have hle := drop_le hd (wn_pos n)
    have hfull : full = full.take at' ++ writeNum n ++ post := by rw [List.append_assoc, ← hd, List.take_append_drop]
    have hpl : (full.take at').length = at' := by
      rw [List.length_take]
      have := wn_pos n
      omega
    refine ⟨_, rfl, _, _, _, _, _, rfl, hx, W.c_ImageReader.cl, W.a_ImageReader_row, rfl, _, rfl, _, _, _, _, _, rfl, hx, W.c_ImageReader.cl, W.a_ImageReader_at, rfl, ?_⟩
    refine ⟨l, full.take at', n, post, by rw [hpl]; rfl, SqL.of (by rw [← hfull]; exact hl), by rw [← hfull]; exact hz, fun H1 p s1 np hp => ?_⟩
    refine ⟨p, _, rfl, SqT.of hp, rfl, _, _, rfl, _, _, rfl, _, rfl, x, _, _, _, rfl, s1 _ _ hx, W.c_ImageReader.cl, W.a_ImageReader_at, (by show 2 < 1000; decide), rfl, _, rfl, ?_⟩
    have hxl : l ≠ x := ne_of hl hx (by intro z; cases z)
    refine q _ (But.upd (But.of s1)) ⟨dx, ?_, by rw [upd_ne hxl]; exact s1 _ _ hl⟩
    rw [upd_same, hpl]
    rfl
def sp_ImageReader_take (K : PySem.W.Frag) : Sp := fun vs H Q _ => ∃ x l full at' c, vs = [.ref x, .int ((c : Nat) : Int)] ∧ ORdrK K full at' x l H ∧ full.length ≤ 1000000 ∧ at' + c ≤ full.length ∧
  ∀ H' p, But x H H' → H p = none → H' p = some (.lst (((full.drop at').take c).map V.int)) → ORdrK K full (at' + c) x l H' → Q (.ref p) H'
abbrev N_ImageReader_take : List Str := ["self", "count"]
theorem sc_ImageReader_take : FnScope N_ImageReader_take ["self", "count"] (defScope s_ImageReader_take) := ⟨rfl, rfl, rfl, by decide +kernel, rfl, by decide +kernel, by decide +kernel⟩
theorem ok_ImageReader_take (W : T K mg) : OkM P w K mg base (1) "ImageReader" "take" ["self", "count"] (sp_ImageReader_take K) := by
  refine W.f_ImageReader_take.F.ok sc_ImageReader_take (fun vs H Q E h => ?_) (fun cdv A outer s H vs Q E hr h => ?_)
  · obtain ⟨x, l, full, at', c, rfl, _⟩ := h
    rfl
  · obtain ⟨x, l, full, at', c, rfl, ⟨dx, hx, hl⟩, hz, hle, q⟩ := h
    refine ⟨_, PSs.nox ((pss_cons
       (ps_if (pt_cmpR op_gt (pe_op op_add (pe_fld (pv 0) rfl) (pv 1)) (pe_callB call_len_seq (by rfl) W.n_len (by decide +kernel) (pa_cons (pe_fld (pv 0) rfl) pa_nil)) (nomark _)) (pss_one
       ps_never) pss_nil)
       (pss_cons
       (ps_fldaug (pv 0) (pv 1) in_add)
       (pss_one
       (ps_ret (pe_slice sl_list (pe_fld (pv 0) rfl) (po_some (pe_op op_sub (pe_fld (pv 0) rfl) (pv 1))) (po_some (pe_fld (pv 0) rfl)))))))), ?_⟩
    have hxl : l ≠ x := ne_of hl hx (by intro z; cases z)
    refine ⟨_, rfl, _, _, _, _, _, rfl, hx, W.c_ImageReader.cl, W.a_ImageReader_at, rfl, _, rfl, _, _, rfl, rfl, ?_⟩
    refine ⟨_, rfl, _, _, _, _, _, rfl, hx, W.c_ImageReader.cl, W.a_ImageReader_row, rfl, _, _, rfl, .inl (SqL.of hl), _, _, rfl, rfl, _, rfl, ifF (fun z => ?_) ?_⟩
    · have z' := of_decide_eq_true z
      rw [List.length_map] at z'
      omega
    refine ⟨_, rfl, _, _, _, _, _, rfl, hx, W.c_ImageReader.cl, W.a_ImageReader_at, rfl, _, rfl, _, _, rfl, rfl, dx, _, hx, (by show 2 < 1000; decide), ?_⟩
    have hx2 : upd H x (.ins (He.ga K "ImageReader") dx [("row", .ref l), ("at", .int ((at' : Int) + (c : Int)))]) x = some (.ins (He.ga K "ImageReader") dx [("row", .ref l), ("at", .int ((at' : Int) + (c : Int)))]) := upd_same
    have hl2 : upd H x (.ins (He.ga K "ImageReader") dx [("row", .ref l), ("at", .int ((at' : Int) + (c : Int)))]) l = some (.lst (full.map V.int)) := by rw [upd_ne hxl]; exact hl
    refine ⟨_, rfl, _, _, _, _, _, rfl, hx2, W.c_ImageReader.cl, W.a_ImageReader_row, rfl, _, rfl, _, _, _, _, _, rfl, hx2, W.c_ImageReader.cl, W.a_ImageReader_at, rfl, _, rfl, _, _, rfl, rfl, _, rfl, _, rfl, _, _, _, _, _, rfl, hx2, W.c_ImageReader.cl, W.a_ImageReader_at, rfl, _, rfl, _, _, rfl, SqL.of hl2, fun p np => ?_⟩
    have npH : H p = none := by
      by_cases e : p = x
      · rw [e, upd_same] at np
        cases np
      · rw [upd_ne e] at np
        exact np
    have hpx : x ≠ p := ne_of_none hx npH
    have hpl : l ≠ p := ne_of_none hl npH
    refine q _ p ?_ npH ?_ ⟨dx, ?_, ?_⟩
    · intro b o n e
      rw [upd_ne (ne_of_none e npH), upd_ne n]
      exact e
    · show upd _ p (.lst (cutV (full.map V.int) (some ((at' : Int) + (c : Int) - (c : Int))) (some ((at' : Int) + (c : Int))))) p = _
      rw [upd_same, show (at' : Int) + (c : Int) - (c : Int) = ((at' : Nat) : Int) by omega, show (at' : Int) + (c : Int) = ((at' + c : Nat) : Int) by omega, cutV_nat (by omega), Nat.add_sub_cancel_left, List.map_take, List.map_drop]
    · rw [upd_ne hpx]
      rw [show ((at' + c : Nat) : Int) = (at' : Int) + (c : Int) by omega]
      exact hx2
    · rw [upd_ne hpl]
      exact hl2
def sp_ImageReader_read_count (K : PySem.W.Frag) : Sp := fun vs H Q _ => ∃ x l full at' n post, vs = [.ref x] ∧ ORdrK K full at' x l H ∧ full.length ≤ 1000000 ∧ full.drop at' = writeNum n ++ post ∧ 1 ≤ n ∧ n ≤ 20 ∧
  ∀ H', But x H H' → ORdrK K full (at' + (writeNum n).length) x l H' → Q (.int (n : Int)) H'
abbrev N_ImageReader_read_count : List Str := ["self", "count"]
theorem sc_ImageReader_read_count : FnScope N_ImageReader_read_count ["self"] (defScope s_ImageReader_read_count) := ⟨rfl, rfl, rfl, by decide +kernel, rfl, by decide +kernel, by decide +kernel⟩
theorem ok_ImageReader_read_count (W : T K mg) : OkM P w K mg base (3) "ImageReader" "read_count" ["self"] (sp_ImageReader_read_count K) := by
  refine W.f_ImageReader_read_count.F.ok sc_ImageReader_read_count (fun vs H Q E h => ?_) (fun cdv A outer s H vs Q E hr h => ?_)
  · obtain ⟨x, l, full, at', n, post, rfl, _⟩ := h
    rfl
  · obtain ⟨x, l, full, at', n, post, rfl, ho, hz, hd, h1, h20, q⟩ := h
    obtain ⟨dx, hx, hl⟩ := id ho
    refine ⟨_, PSs.nox ((pss_cons
       (ps_set (i := 1) sc_ImageReader_read_count.nd rfl (Or.inl rfl) (pe_meth0 (pv 0) W.c_ImageReader.cl W.f_ImageReader_number.M (ok_ImageReader_number W) (hr.mono (by decide)) W.f_ImageReader_number.b .nil pass0))
       (pss_cons
       (ps_if (pt_not (pt_chain op_le op_le pe_int (pv 1) (pgi W.i_MOST_READS))) (pss_one
       ps_never) pss_nil)
       (pss_one
       (ps_ret (pv 1)))))), ?_⟩
    refine ⟨_, rfl, _, _, _, rfl, hx, rfl, x, l, full, at', n, post, rfl, ho, hz, hd, fun H1 b1 o1 => ?_⟩
    exact ⟨_, rfl, _, _, rfl, rfl, _, rfl, ifT (decide_eq_true (by omega)) ⟨_, _, rfl, rfl, _, rfl, iteNS (by omega) ⟨_, rfl, q _ b1 o1⟩⟩⟩
theorem ivNum_odd {r : RdD} {n : Nat} (h : ¬ 0 < backCount r.iv n) : ivNum r.iv n = 2 * (r.iv.getD n 0).toNat + 1 := by
  unfold ivNum
  rw [if_neg h]
theorem ivNum_even {r : RdD} {n : Nat} (h : 0 < backCount r.iv n) : ivNum r.iv n = 2 * backCount r.iv n := by
  unfold ivNum
  rw [if_pos h]
def sp_ImageReader_read_intervals (K : PySem.W.Frag) : Sp := fun vs H Q _ => ∃ x l full at' r post, vs = [.ref x, .int ((r.iv.length : Nat) : Int)] ∧ ORdrK K full at' x l H ∧ full.length ≤ 1000000 ∧ full.drop at' = ivsBytes r.iv r.iv.length ++ post ∧ RdOk r ∧
  ∀ H' p, But x H H' → H p = none → H' p = some (.lst (r.iv.map V.int)) → ORdrK K full (at' + (ivsBytes r.iv r.iv.length).length) x l H' → Q (.ref p) H'
abbrev N_ImageReader_read_intervals : List Str := ["self", "count", "found", "_", "number"]
theorem sc_ImageReader_read_intervals : FnScope N_ImageReader_read_intervals ["self", "count"] (defScope s_ImageReader_read_intervals) := ⟨rfl, rfl, rfl, by decide +kernel, rfl, by decide +kernel, by decide +kernel⟩
theorem ok_ImageReader_read_intervals (W : T K mg) : OkM P w K mg base (3) "ImageReader" "read_intervals" ["self", "count"] (sp_ImageReader_read_intervals K) := by
  refine W.f_ImageReader_read_intervals.F.ok sc_ImageReader_read_intervals (fun vs H Q E h => ?_) (fun cdv A outer s H vs Q E hr h => ?_)
  · obtain ⟨x, l, full, at', r, post, rfl, _⟩ := h
    rfl
  · obtain ⟨x, l, full, at', r, post, rfl, ho, hz, hd, hok, q⟩ := h
    obtain ⟨dx, hx, hl⟩ := id ho
    refine ⟨_, PSs.nox ((pss_cons
       (ps_if (pt_cmpR op_gt (pv 1) (pgi W.i_MOST_INTERVALS) (nomark _)) (pss_one
       ps_never) pss_nil)
       (pss_cons
       (ps_set (i := 2) sc_ImageReader_read_intervals.nd rfl (Or.inl rfl) (pe_lst pa_nil))
       (pss_cons
       (ps_for PassesOwn.never rfl (pi_range1 rfl W.n_range (pa_cons (pv 1) pa_nil)) (pg_name (i := 3) sc_ImageReader_read_intervals.nd rfl (Or.inl rfl)) (pss_cons
       (ps_set (i := 4) sc_ImageReader_read_intervals.nd rfl (Or.inl rfl) (pe_meth0 (pv 0) W.c_ImageReader.cl W.f_ImageReader_number.M (ok_ImageReader_number W) (hr.mono (by decide)) W.f_ImageReader_number.b .nil pass0))
       (pss_one
       (ps_if (pt_cmpR op_eq (pe_op op_mod (pv 4) pe_int) pe_int (nomark _)) (pss_one
       (ps_expr (pe_bm PySem.F.plainAttrs_list PySem.F.slot_list_append PySem.F.type_list_append mt_append (pv 2) (pa_cons (pe_op op_fdiv (pv 4) pe_int) pa_nil)))) (pss_one
       (ps_if (pt_chain op_lt op_le pe_int (pe_op op_fdiv (pv 4) pe_int) (pe_callB call_len_seq (by rfl) W.n_len (by decide +kernel) (pa_cons (pv 2) pa_nil))) (pss_one
       (ps_expr (pe_bm PySem.F.plainAttrs_list PySem.F.slot_list_append PySem.F.type_list_append mt_append (pv 2) (pa_cons (pe_ix ix_list (pv 2) (pe_un un_neg (pe_op op_fdiv (pv 4) pe_int)) (fun _ _ => rfl)) pa_nil)))) (pss_one
       ps_never)))))))
       (pss_one
       (ps_ret (pv 2))))))), ?_⟩
    have h60 := hok.1
    refine ⟨_, rfl, _, _, rfl, rfl, _, rfl, ifF (fun z => by have := of_decide_eq_true z; omega) ?_⟩
    refine ⟨Nat.zero_le _, fun o no => ?_⟩
    have s1 := Same.new (o := .lst []) no
    have hox : o ≠ x := (ne_of_none hx no).symm
    refine ⟨_, rfl, _, rfl, by omega, by omega, ?_⟩
    have en : (((r.iv.length : Nat) : Int)).toNat = r.iv.length := Int.toNat_natCast _
    refine for_range (n := _) (fun i σ H' => But x H H' ∧ H' o = some (.lst ((r.iv.take i).map V.int)) ∧ ORdrK K full (at' + (ivsBytes r.iv i).length) x l H' ∧ full.drop (at' + (ivsBytes r.iv i).length) = ivsFrom r.iv i ++ post ∧
      ∃ y z, σ = [some (.ref x), some (.int ((r.iv.length : Nat) : Int)), some (.ref o), y, z]) ⟨But.of s1, upd_same, ho.mono s1, hd, _, _, rfl⟩ (fun i σ H' hi p => ?_) fun σ H' p => ?_
    · obtain ⟨b, ho', hr', hd', y, z, rfl⟩ := p
      rw [en] at hi
      rw [ivsFrom_step hi, ivBytes_num, List.append_assoc] at hd'
      obtain ⟨dx', hx', hl'⟩ := id hr'
      have hiv := iv_nat hok hi
      have hbk := back_ok r.iv i
      refine ⟨_, rfl, _, _, _, rfl, hx', rfl, x, l, full, _, ivNum r.iv i, _, rfl, hr', hz, hd', fun H2 b2 o2 => ?_⟩
      have ho2 := b2 _ _ hox ho'
      have htl : (r.iv.take i).length = i := by rw [List.length_take]; omega
      have hd2 := drop_app hd'
      have eat : at' + (ivsBytes r.iv i).length + (writeNum (ivNum r.iv i)).length = at' + (ivsBytes r.iv (i + 1)).length := by
        rw [ivsBytes_succ, List.length_append, ivBytes_num]
        omega
      rw [eat] at hd2 o2
      have etk : (r.iv.take (i + 1)).map V.int = (r.iv.take i).map V.int ++ [.int (r.iv.getD i 0)] := by
        have e1 : r.iv[i]? = some (r.iv.getD i 0) := by
          rw [List.getD_eq_getElem?_getD, List.getElem?_eq_getElem hi]
          rfl
        rw [take_more e1, List.map_append]
        rfl
      -- an item is appended
      have fin : But x H (upd H2 o (.lst ((r.iv.take i).map V.int ++ [.int (r.iv.getD i 0)]))) ∧ upd H2 o (.lst ((r.iv.take i).map V.int ++ [.int (r.iv.getD i 0)])) o = some (.lst ((r.iv.take (i + 1)).map V.int)) ∧ ORdrK K full (at' + (ivsBytes r.iv (i + 1)).length) x l (upd H2 o (.lst ((r.iv.take i).map V.int ++ [.int (r.iv.getD i 0)]))) := by
        obtain ⟨dx2, hx2, hl2⟩ := o2
        have hol : l ≠ o := ne_of_none hl no
        refine ⟨fun c u n e => ?_, by rw [upd_same, etk], dx2, by rw [upd_ne hox.symm]; exact hx2, by rw [upd_ne hol]; exact hl2⟩
        rw [upd_ne (ne_of_none e no)]
        exact b2 _ _ n (b _ _ n e)
      refine ⟨_, rfl, _, _, rfl, rfl, (by show (0 : Int) < 2; decide), rfl, _, rfl, ?_⟩
      by_cases hb : 0 < backCount r.iv i
      · have hn := ivNum_even hb
        rw [hn] at *
        have hbb : 1 ≤ backCount r.iv i ∧ backCount r.iv i ≤ i ∧ backCount r.iv i ≤ 60 ∧ r.iv.getD (i - backCount r.iv i) 0 = r.iv.getD i 0 := by
          rcases hbk with e | e
          · omega
          · exact e
        have ehalf : ((2 * backCount r.iv i : Nat) : Int) / 2 = ((backCount r.iv i : Nat) : Int) := by omega
        refine ifF (fun z => ?_) ?_
        · have := V.int.inj (of_decide_eq_true z)
          omega
        refine ⟨_, rfl, _, _, rfl, rfl, ⟨by decide, by decide⟩, _, _, rfl, rfl, _, rfl, ifT (decide_eq_true (by show (0 : Int) < ((2 * backCount r.iv i : Nat) : Int) / 2; omega)) ?_⟩
        refine ⟨_, rfl, _, _, rfl, .inl (SqL.of ho2), _, _, rfl, rfl, _, rfl, ifT (decide_eq_true (by show ((2 * backCount r.iv i : Nat) : Int) / 2 ≤ (((r.iv.take i).map V.int).length : Nat); rw [List.length_map, htl]; omega)) ?_⟩
        have gi := atI_neg (ns := r.iv.take i) (b := backCount r.iv i) (by omega) (by rw [htl]; omega)
        rw [htl, getD_take (by omega), hbb.2.2.2, ← ehalf] at gi
        refine ⟨_, rfl, .inl ⟨rfl, _, SqL.of ho2⟩, _, rfl, _, rfl, _, _, rfl, rfl, ⟨by decide, by decide⟩, _, rfl, _, _, _, _, rfl, rfl, SqL.of ho2, gi, _, _, _, rfl, rfl, ho2, (by rw [List.length_map, htl]; show i < 16777216; omega), fin.1, fin.2.1, fin.2.2, hd2, _, _, rfl⟩
      · have hn := ivNum_odd (r := r) hb
        rw [hn] at *
        have ehalf : ((2 * (r.iv.getD i 0).toNat + 1 : Nat) : Int) / 2 = r.iv.getD i 0 := by omega
        refine ifT (decide_eq_true ?_) ?_
        · show V.int (((2 * (r.iv.getD i 0).toNat + 1 : Nat) : Int) % 2) = V.int 1
          congr 1
          omega
        refine ⟨_, rfl, .inl ⟨rfl, _, SqL.of ho2⟩, _, rfl, _, _, rfl, rfl, ⟨by decide, by decide⟩, _, _, _, rfl, rfl, ho2, (by rw [List.length_map, htl]; show i < 16777216; omega), ?_⟩
        show But x H (upd H2 o (.lst ((r.iv.take i).map V.int ++ [.int (((2 * (r.iv.getD i 0).toNat + 1 : Nat) : Int) / 2)]))) ∧ (upd H2 o (.lst ((r.iv.take i).map V.int ++ [.int (((2 * (r.iv.getD i 0).toNat + 1 : Nat) : Int) / 2)]))) o = _ ∧ ORdrK K full _ x l (upd H2 o (.lst ((r.iv.take i).map V.int ++ [.int (((2 * (r.iv.getD i 0).toNat + 1 : Nat) : Int) / 2)]))) ∧ _
        rw [ehalf]
        exact ⟨fin.1, fin.2.1, fin.2.2, hd2, _, _, rfl⟩
    · obtain ⟨b, ho', hr', hd', y, z, rfl⟩ := p
      rw [en, List.take_length] at ho'
      rw [en] at hr'
      exact ⟨_, rfl, q _ _ b no ho' hr'⟩
/-- a Read stands when the reader goes on -/
theorem ORead.but {r : RdD} {y : V} {full : List Int} {at' : Nat} {x l : Addr} {H H' : Hp} (ho : ORdrK K full at' x l H) (b : But x H H') (h : OReadK K r y H) : OReadK K r y H' := by
  obtain ⟨dx, hx, _⟩ := ho
  obtain ⟨x0, dx0, t0, rfl, h0, ht0⟩ := h
  refine ⟨x0, dx0, t0, rfl, b _ _ (ne_of h0 hx fun z => ?_) h0, b _ _ (ne_of ht0 hx (by intro z; cases z)) ht0⟩
  injection z with _ _ z
  injection z with z _
  injection z with z _
  exact absurd z (by decide +kernel)
def sp_ImageReader_read_read (K : PySem.W.Frag) : Sp := fun vs H Q _ => ∃ x l full at' r post, vs = [.ref x] ∧ ORdrK K full at' x l H ∧ full.length ≤ 1000000 ∧ full.drop at' = readBytes r ++ post ∧ RdOk r ∧
  ∀ H' y, But x H H' → OReadK K r y H' → ORdrK K full (at' + (readBytes r).length) x l H' → Q y H'
abbrev N_ImageReader_read_read : List Str := ["self", "intervals"]
theorem sc_ImageReader_read_read : FnScope N_ImageReader_read_read ["self"] (defScope s_ImageReader_read_read) := ⟨rfl, rfl, rfl, by decide +kernel, rfl, by decide +kernel, by decide +kernel⟩
theorem ok_ImageReader_read_read (W : T K mg) : OkM P w K mg base (4) "ImageReader" "read_read" ["self"] (sp_ImageReader_read_read K) := by
  refine W.f_ImageReader_read_read.F.ok sc_ImageReader_read_read (fun vs H Q E h => ?_) (fun cdv A outer s H vs Q E hr h => ?_)
  · obtain ⟨x, l, full, at', r, post, rfl, _⟩ := h
    rfl
  · obtain ⟨x, l, full, at', r, post, rfl, ho, hz, hd, hok, q⟩ := h
    obtain ⟨dx, hx, hl⟩ := id ho
    refine ⟨_, PSs.nox ((pss_cons
       (ps_set (i := 1) sc_ImageReader_read_read.nd rfl (Or.inl rfl) (pe_meth (pv 0) W.c_ImageReader.cl W.f_ImageReader_read_intervals.M (ok_ImageReader_read_intervals W) (hr.mono (by decide)) W.f_ImageReader_read_intervals.b .nil pass0 (pa_cons (pe_meth0 (pv 0) W.c_ImageReader.cl W.f_ImageReader_number.M (ok_ImageReader_number W) (hr.mono (by decide)) W.f_ImageReader_number.b .nil pass0) pa_nil)))
       (pss_one
       (ps_try_thru0 (pss_one
       (ps_ret (pe_make W.c_Read.mk' (ok_Read_init W) (hr.mono (by decide)) (by rfl) W.c_Read.g W.f_Read_init.b .nil pass0 (pa_cons (pv 1) (pa_cons (pe_meth0 (pv 0) W.c_ImageReader.cl W.f_ImageReader_number.M (ok_ImageReader_number W) (hr.mono (by decide)) W.f_ImageReader_number.b .nil pass0) pa_nil))))))))), ?_⟩
    have hd0 : full.drop at' = writeNum r.iv.length ++ (ivsBytes r.iv r.iv.length ++ (writeNum r.rest.toNat ++ post)) := by
      rw [hd]
      unfold readBytes
      simp [List.append_assoc]
    refine ⟨_, rfl, _, _, _, rfl, hx, rfl, ?_⟩
    refine ⟨_, rfl, _, _, _, rfl, hx, rfl, x, l, full, at', r.iv.length, _, rfl, ho, hz, hd0, fun H1 b1 o1 => ?_⟩
    have hd1 := drop_app hd0
    refine ⟨x, l, full, _, r, _, rfl, o1, hz, hd1, hok, fun H2 p b2 np hp o2 => ?_⟩
    have hd2 := drop_app hd1
    obtain ⟨dx2, hx2, hl2⟩ := id o2
    refine ⟨_, rfl, _, rfl, _, _, _, rfl, hx2, rfl, x, l, full, _, r.rest.toNat, post, rfl, o2, hz, hd2, fun H3 b3 o3 => ?_⟩
    obtain ⟨dx3, hx3, hl3⟩ := id o3
    have er : ((r.rest.toNat : Nat) : Int) = r.rest := by
      have := hok.2.1
      omega
    rw [er]
    refine fun rx rdx nrx nrdx nre => ?_
    have hpx : p ≠ x := ne_of hp hx2 (by intro z; cases z)
    have hp3 := b3 _ _ hpx hp
    refine ⟨rx, rdx, p, r, rfl, upd_same, SqL.of (by rw [upd_ne (ne_of_none hp3 nrx), upd_ne (ne_of_none hp3 nrdx)]; exact hp3), hok, fun H4 t s4 nt ht hrx => ⟨rfl, ?_⟩⟩
    have s34 : Same H3 H4 := But.made s4 nrx nrdx
    refine q _ _ (((b1.trans b2).trans b3).step s34) ⟨rx, rdx, t, rfl, hrx, ht⟩ ?_
    have el : at' + (readBytes r).length = at' + (writeNum r.iv.length).length + (ivsBytes r.iv r.iv.length).length + (writeNum r.rest.toNat).length := by
      unfold readBytes
      rw [List.length_append, List.length_append]
      omega
    rw [el]
    exact o3.mono s34
end
end KW
end

section
set_option Elab.async false
set_option linter.all false
set_option maxRecDepth 100000
set_option maxHeartbeats 4000000
/-! images, the reading side: tracks. -/
namespace KW
open PySem PySem.Spec PyProof.Rows L2 KR
/-! ### the mathematics -/
theorem flat_take {α : Type} {f : α → List Int} {l : List α} {i : Nat} {x : α} (h : l[i]? = some x) : (l.take (i + 1)).flatMap f = (l.take i).flatMap f ++ f x := by
  rw [take_more h, List.flatMap_append]
  simp
theorem flat_drop {α : Type} {f : α → List Int} {l : List α} {i : Nat} {x : α} (h : l[i]? = some x) : (l.drop i).flatMap f = f x ++ (l.drop (i + 1)).flatMap f := by
  obtain ⟨hi, e⟩ := List.getElem?_eq_some_iff.mp h
  rw [List.drop_eq_getElem_cons hi, List.flatMap_cons, e]
def numsOf (r : RdD) : List Nat := (List.range r.iv.length).map (ivNum r.iv) ++ [r.rest.toNat]
theorem numsOf_len (r : RdD) : (numsOf r).length = r.iv.length + 1 := by
  unfold numsOf
  rw [List.length_append, List.length_map, List.length_range]
  rfl
theorem readBytes_nums (r : RdD) : readBytes r = writeNum r.iv.length ++ (numsOf r).flatMap writeNum := by
  unfold readBytes numsOf ivsBytes
  rw [List.flatMap_append, List.append_assoc]
  congr 1
  have e : (List.range r.iv.length).flatMap (ivBytes r.iv) = ((List.range r.iv.length).map (ivNum r.iv)).flatMap writeNum := by
    rw [List.flatMap_map]
    congr 1
    funext n
    exact ivBytes_num r.iv n
  rw [e]
  simp
section
variable {P : Program} {w : World} {K : PySem.W.Frag} {mg : Str → Option Value} {base : Heap}
theorem ORead.updl {r : RdD} {y : V} {D : Addr} {xs ys : List V} {H : Hp} (hD : H D = some (.lst xs)) (h : OReadK K r y H) : OReadK K r y (upd H D (.lst ys)) := by
  obtain ⟨x0, dx0, t0, rfl, h0, ht0⟩ := h
  exact ⟨x0, dx0, t0, rfl, by rw [upd_ne (ne_of h0 hD (by intro z; cases z))]; exact h0, by rw [upd_ne (ne_of ht0 hD (by intro z; cases z))]; exact ht0⟩
theorem ORdrK.updl {full : List Int} {at' : Nat} {x l D : Addr} {xs ys : List V} {H : Hp} (hD : H D = some (.lst xs)) (hlD : l ≠ D) (h : ORdrK K full at' x l H) : ORdrK K full at' x l (upd H D (.lst ys)) := by
  obtain ⟨dx, h1, h2⟩ := h
  exact ⟨dx, by rw [upd_ne (ne_of h1 hD (by intro z; cases z))]; exact h1, by rw [upd_ne hlD]; exact h2⟩
theorem track_split (a b : Nat) (reads : List RdD) (post : List Int) : trackPart a b reads ++ post = writeNum a ++ (writeNum b ++ (writeNum reads.length ++ (reads.flatMap readBytes ++ post))) := by
  unfold trackPart
  simp [List.append_assoc]
theorem track_len' (a b : Nat) (reads : List RdD) : (trackPart a b reads).length = (writeNum a).length + (writeNum b).length + (writeNum reads.length).length + (reads.flatMap readBytes).length := by
  unfold trackPart
  rw [List.length_append, List.length_append, List.length_append]
def sp_ImageReader_read_track (K : PySem.W.Frag) : Sp := fun vs H Q _ => ∃ x l full at' a b reads post, vs = [.ref x] ∧ ORdrK K full at' x l H ∧ full.length ≤ 1000000 ∧ full.drop at' = trackPart a b reads ++ post ∧ Reads reads ∧
  ∀ H' r t p, But x H H' → H' r = some (.tup [.ref t, .ref p]) → H' t = some (.tup [.int (a : Int), .int (b : Int)]) → ORow (OReadK K) reads (.ref p) H' → ORdrK K full (at' + (trackPart a b reads).length) x l H' → Q (.ref r) H'
abbrev N_ImageReader_read_track : List Str := ["self", "place", "number"]
theorem sc_ImageReader_read_track : FnScope N_ImageReader_read_track ["self"] (defScope s_ImageReader_read_track) := ⟨rfl, rfl, rfl, by decide +kernel, rfl, by decide +kernel, by decide +kernel⟩
theorem ok_ImageReader_read_track (W : T K mg) : OkM P w K mg base (5) "ImageReader" "read_track" ["self"] (sp_ImageReader_read_track K) := by
  refine W.f_ImageReader_read_track.F.ok sc_ImageReader_read_track (fun vs H Q E h => ?_) (fun cdv A outer s H vs Q E hr h => ?_)
  · obtain ⟨x, l, full, at', a, b, reads, post, rfl, _⟩ := h
    rfl
  · obtain ⟨x, l, full, at', a, b, reads, post, rfl, ho, hz, hd, hok, q⟩ := h
    obtain ⟨dx, hx, hl⟩ := id ho
    rw [track_split] at hd
    refine ⟨_, PSs.nox ((pss_cons
       (ps_set (i := 1) sc_ImageReader_read_track.nd rfl (Or.inl rfl) (pe_tup (pa_cons (pe_meth0 (pv 0) W.c_ImageReader.cl W.f_ImageReader_number.M (ok_ImageReader_number W) (hr.mono (by decide)) W.f_ImageReader_number.b .nil pass0) (pa_cons (pe_meth0 (pv 0) W.c_ImageReader.cl W.f_ImageReader_number.M (ok_ImageReader_number W) (hr.mono (by decide)) W.f_ImageReader_number.b .nil pass0) pa_nil))))
       (pss_one
       (ps_ret (pe_tup (pa_cons (pv 1) (pa_cons (pe_lc (own := [("number", 2)]) rfl sc_ImageReader_read_track.nd (pi_range1 rfl W.n_range (pa_cons (pe_meth0 (pv 0) W.c_ImageReader.cl W.f_ImageReader_read_count.M (ok_ImageReader_read_count W) (hr.mono (by decide)) W.f_ImageReader_read_count.b .nil pass0) pa_nil)) (blkOk_by (own := [("number", 2)]) (N := N_ImageReader_read_track) (sc := defScope s_ImageReader_read_track) (by decide +kernel)) (fun _ _ _ _ _ => (pg_name (i := 2) sc_ImageReader_read_track.nd rfl (Or.inl rfl))) (fun _ _ _ _ _ => pts_nil) (fun _ _ _ _ _ => (pe_meth0 (pv 0) W.c_ImageReader.cl W.f_ImageReader_read_read.M (ok_ImageReader_read_read W) (hr.mono (by decide)) W.f_ImageReader_read_read.b .nil pass0))) pa_nil))))))), ?_⟩
    refine ⟨_, rfl, _, _, _, rfl, hx, rfl, x, l, full, at', a, _, rfl, ho, hz, hd, fun H1 b1 o1 => ?_⟩
    have hd1 := drop_app hd
    obtain ⟨dx1, hx1, hl1⟩ := id o1
    refine ⟨_, rfl, _, _, _, rfl, hx1, rfl, x, l, full, _, b, _, rfl, o1, hz, hd1, fun H2 b2 o2 => ⟨(by show 2 ≤ sizeLine; decide), fun t nt => ?_⟩⟩
    have hd2 := drop_app hd1
    have st := Same.new (o := .tup [.int (a : Int), .int (b : Int)]) nt
    have o2' := o2.mono st
    obtain ⟨dx2, hx2, hl2⟩ := id o2'
    refine ⟨_, rfl, ?_⟩
    refine ⟨_, rfl, _, _, _, rfl, hx2, rfl, x, l, full, _, reads.length, _, rfl, o2', hz, hd2, hok.1, hok.2.1, fun H3 b3 o3 => ⟨_, rfl, by omega, by have := hok.2.1; omega, fun D nD => ?_⟩⟩
    have hd3 := drop_app hd2
    obtain ⟨dx3, hx3, hl3⟩ := id o3
    have ht3 := b3 _ _ (ne_of (upd_same : upd H2 t (.tup [.int (a : Int), .int (b : Int)]) t = _) hx2 (by intro z; cases z)) upd_same
    have hDx : D ≠ x := (ne_of_none hx3 nD).symm
    have hDl : l ≠ D := ne_of_none hl3 nD
    have en : (((reads.length : Nat) : Int)).toNat = reads.length := Int.toNat_natCast _
    generalize hat3 : at' + (writeNum a).length + (writeNum b).length + (writeNum reads.length).length = at3 at hd3 o3
    refine lc_range (n := _) (fun i H' => ∃ ys, H' D = some (.lst ys) ∧ ys.length = i ∧ Paired (fun r y => OReadK K r y H') (reads.take i) ys ∧ (∀ c o, c ≠ x → c ≠ D → H3 c = some o → H' c = some o) ∧ ORdrK K full (at3 + ((reads.take i).flatMap readBytes).length) x l H')
      ⟨[], upd_same, rfl, .nil, fun c o n1 n2 e => by rw [upd_ne n2]; exact e, o3.mono (Same.new nD)⟩ (fun i H' hi p => ?_) fun H' p => ?_
    · obtain ⟨ys, hD, hyl, hpr, hs, or⟩ := p
      rw [en] at hi
      have hir : reads[i]? = some reads[i] := List.getElem?_eq_getElem hi
      have hdi : full.drop (at3 + ((reads.take i).flatMap readBytes).length) = readBytes reads[i] ++ ((reads.drop (i + 1)).flatMap readBytes ++ post) := by
        have e1 : full.drop at3 = (reads.take i).flatMap readBytes ++ (readBytes reads[i] ++ ((reads.drop (i + 1)).flatMap readBytes ++ post)) := by
          rw [hd3]
          have e2 : reads.flatMap readBytes = (reads.take i).flatMap readBytes ++ (readBytes reads[i] ++ (reads.drop (i + 1)).flatMap readBytes) := by
            rw [← flat_drop hir, ← List.flatMap_append, List.take_append_drop]
          rw [e2]
          simp [List.append_assoc]
        exact drop_app e1
      obtain ⟨dx4, hx4, hl4⟩ := id or
      refine ⟨rfl, _, rfl, _, _, _, rfl, hx4, rfl, x, l, full, _, reads[i], _, rfl, or, hz, hdi, (hok.2.2 _ (List.getElem_mem hi)).1, fun H5 y b5 oy5 o5 => ?_⟩
      have hD5 := b5 _ _ hDx hD
      refine ⟨ys, hD5, (by rw [hyl]; have := hok.2.1; show i < 16777216; omega), ys ++ [y], upd_same, (by rw [List.length_append, hyl]; rfl), ?_, fun c o n1 n2 e => by rw [upd_ne n2]; exact b5 _ _ n1 (hs _ _ n1 n2 e), ?_⟩
      · rw [take_more hir]
        exact Paired.snoc (Paired.mapP hpr fun r y z => ORead.updl hD5 (ORead.but or b5 z)) (ORead.updl hD5 oy5)
      · rw [flat_take hir, List.length_append, ← Nat.add_assoc]
        exact o5.updl hD5 hDl
    · obtain ⟨ys, hD, hyl, hpr, hs, or⟩ := p
      rw [en, List.take_length] at hpr or
      refine ⟨(by show 2 ≤ sizeLine; decide), fun r nr => ?_⟩
      have sr := Same.new (o := .tup [.ref t, .ref D]) nr
      have htx := ne_of ht3 hx3 (by intro z; cases z)
      have htD : t ≠ D := ne_of_none ht3 nD
      refine q _ r t D ?_ upd_same (sr _ _ (hs _ _ htx htD ht3)) ⟨D, ys, rfl, sr _ _ hD, Paired.mapP hpr fun r y z => mono_ORead _ _ _ _ sr z⟩ ?_
      · refine (((b1.trans b2).step st).trans b3).trans fun c o n e => sr _ _ (hs _ _ n (ne_of_none e nD) e)
      · rw [track_len', ← Nat.add_assoc, ← Nat.add_assoc, ← Nat.add_assoc, hat3]
        exact or.mono sr
def sp_ImageReader_skip_track (K : PySem.W.Frag) : Sp := fun vs H Q _ => ∃ x l full at' a b reads post, vs = [.ref x] ∧ ORdrK K full at' x l H ∧ full.length ≤ 1000000 ∧ full.drop at' = trackPart a b reads ++ post ∧ Reads reads ∧
  ∀ H' t, But x H H' → ORdrK K full (at' + (trackPart a b reads).length) x l H' → Q (.ref t) H'
abbrev N_ImageReader_skip_track : List Str := ["self", "place", "_", "count"]
theorem sc_ImageReader_skip_track : FnScope N_ImageReader_skip_track ["self"] (defScope s_ImageReader_skip_track) := ⟨rfl, rfl, rfl, by decide +kernel, rfl, by decide +kernel, by decide +kernel⟩
theorem ok_ImageReader_skip_track (W : T K mg) : OkM P w K mg base (4) "ImageReader" "skip_track" ["self"] (sp_ImageReader_skip_track K) := by
  refine W.f_ImageReader_skip_track.F.ok sc_ImageReader_skip_track (fun vs H Q E h => ?_) (fun cdv A outer s H vs Q E hr h => ?_)
  · obtain ⟨x, l, full, at', a, b, reads, post, rfl, _⟩ := h
    rfl
  · obtain ⟨x, l, full, at', a, b, reads, post, rfl, ho, hz, hd, hok, q⟩ := h
    obtain ⟨dx, hx, hl⟩ := id ho
    rw [track_split] at hd
    refine ⟨_, PSs.nox ((pss_cons
       (ps_set (i := 1) sc_ImageReader_skip_track.nd rfl (Or.inl rfl) (pe_tup (pa_cons (pe_meth0 (pv 0) W.c_ImageReader.cl W.f_ImageReader_number.M (ok_ImageReader_number W) (hr.mono (by decide)) W.f_ImageReader_number.b .nil pass0) (pa_cons (pe_meth0 (pv 0) W.c_ImageReader.cl W.f_ImageReader_number.M (ok_ImageReader_number W) (hr.mono (by decide)) W.f_ImageReader_number.b .nil pass0) pa_nil))))
       (pss_cons
       (ps_for PassesOwn.never rfl (pi_range1 rfl W.n_range (pa_cons (pe_meth0 (pv 0) W.c_ImageReader.cl W.f_ImageReader_read_count.M (ok_ImageReader_read_count W) (hr.mono (by decide)) W.f_ImageReader_read_count.b .nil pass0) pa_nil)) (pg_name (i := 2) sc_ImageReader_skip_track.nd rfl (Or.inl rfl)) (pss_cons
       (ps_set (i := 3) sc_ImageReader_skip_track.nd rfl (Or.inl rfl) (pe_meth0 (pv 0) W.c_ImageReader.cl W.f_ImageReader_number.M (ok_ImageReader_number W) (hr.mono (by decide)) W.f_ImageReader_number.b .nil pass0))
       (pss_cons
       (ps_if (pt_cmpR op_gt (pv 3) (pgi W.i_MOST_INTERVALS) (nomark _)) (pss_one
       ps_never) pss_nil)
       (pss_one
       (ps_for PassesOwn.never rfl (pi_range1 rfl W.n_range (pa_cons (pe_op op_add (pv 3) pe_int) pa_nil)) (pg_name (i := 2) sc_ImageReader_skip_track.nd rfl (Or.inl rfl)) (pss_one
       (ps_expr (pe_meth0 (pv 0) W.c_ImageReader.cl W.f_ImageReader_number.M (ok_ImageReader_number W) (hr.mono (by decide)) W.f_ImageReader_number.b .nil pass0))))))))
       (pss_one
       (ps_ret (pv 1)))))), ?_⟩
    refine ⟨_, rfl, _, _, _, rfl, hx, rfl, x, l, full, at', a, _, rfl, ho, hz, hd, fun H1 b1 o1 => ?_⟩
    have hd1 := drop_app hd
    obtain ⟨dx1, hx1, hl1⟩ := id o1
    refine ⟨_, rfl, _, _, _, rfl, hx1, rfl, x, l, full, _, b, _, rfl, o1, hz, hd1, fun H2 b2 o2 => ⟨(by show 2 ≤ sizeLine; decide), fun t nt => ?_⟩⟩
    have hd2 := drop_app hd1
    have st := Same.new (o := .tup [.int (a : Int), .int (b : Int)]) nt
    have o2' := o2.mono st
    obtain ⟨dx2, hx2, hl2⟩ := id o2'
    refine ⟨_, rfl, _, _, _, rfl, hx2, rfl, x, l, full, _, reads.length, _, rfl, o2', hz, hd2, hok.1, hok.2.1, fun H3 b3 o3 => ⟨_, rfl, by omega, by have := hok.2.1; omega, ?_⟩⟩
    have hd3 := drop_app hd2
    have b13 := (((b1.trans b2).step st).trans b3)
    have en : (((reads.length : Nat) : Int)).toNat = reads.length := Int.toNat_natCast _
    generalize hat3 : at' + (writeNum a).length + (writeNum b).length + (writeNum reads.length).length = at3 at hd3 o3
    refine for_range (n := _) (fun i σ H' => But x H H' ∧ ORdrK K full (at3 + ((reads.take i).flatMap readBytes).length) x l H' ∧ ∃ y z, σ = [some (.ref x), some (.ref t), y, z]) ⟨b13, o3, _, _, rfl⟩ (fun i σ H' hi p => ?_) fun σ H' p => ?_
    · obtain ⟨bb, or, y, z, rfl⟩ := p
      rw [en] at hi
      have hir : reads[i]? = some reads[i] := List.getElem?_eq_getElem hi
      have hdi : full.drop (at3 + ((reads.take i).flatMap readBytes).length) = writeNum reads[i].iv.length ++ ((numsOf reads[i]).flatMap writeNum ++ ((reads.drop (i + 1)).flatMap readBytes ++ post)) := by
        have e1 : full.drop at3 = (reads.take i).flatMap readBytes ++ (writeNum reads[i].iv.length ++ ((numsOf reads[i]).flatMap writeNum ++ ((reads.drop (i + 1)).flatMap readBytes ++ post))) := by
          rw [hd3]
          have e2 : reads.flatMap readBytes = (reads.take i).flatMap readBytes ++ (readBytes reads[i] ++ (reads.drop (i + 1)).flatMap readBytes) := by
            rw [← flat_drop hir, ← List.flatMap_append, List.take_append_drop]
          rw [e2, readBytes_nums]
          simp [List.append_assoc]
        exact drop_app e1
      obtain ⟨dx4, hx4, hl4⟩ := id or
      have hfew := hok.2.2 _ (List.getElem_mem hi)
      refine ⟨_, rfl, _, _, _, rfl, hx4, rfl, x, l, full, _, reads[i].iv.length, _, rfl, or, hz, hdi, fun H5 b5 o5 => ?_⟩
      have hdj := drop_app hdi
      have h5k := hfew.2
      refine ⟨_, rfl, _, _, rfl, rfl, _, rfl, ifF (fun z => by have := of_decide_eq_true z; omega) ?_⟩
      refine ⟨_, rfl, _, _, rfl, rfl, _, rfl, by omega, by omega, ?_⟩
      have en2 : (((reads[i].iv.length : Nat) : Int) + 1).toNat = (numsOf reads[i]).length := by
        rw [numsOf_len]
        omega
      rw [flat_take hir, List.length_append, readBytes_nums, List.length_append, ← Nat.add_assoc, ← Nat.add_assoc]
      generalize hat5 : at3 + ((reads.take i).flatMap readBytes).length + (writeNum reads[i].iv.length).length = at5 at hdj o5
      refine for_range (n := _) (fun j σ H' => But x H H' ∧ ORdrK K full (at5 + (((numsOf reads[i]).take j).flatMap writeNum).length) x l H' ∧ ∃ y z, σ = [some (.ref x), some (.ref t), y, z]) ⟨bb.trans b5, o5, _, _, rfl⟩ (fun j σ H6 hj p => ?_) fun σ H6 p => ?_
      · obtain ⟨bb6, o6, y, z, rfl⟩ := p
        rw [en2] at hj
        have hjr : (numsOf reads[i])[j]? = some (numsOf reads[i])[j] := List.getElem?_eq_getElem hj
        have hdk : full.drop (at5 + (((numsOf reads[i]).take j).flatMap writeNum).length) = writeNum (numsOf reads[i])[j] ++ (((numsOf reads[i]).drop (j + 1)).flatMap writeNum ++ ((reads.drop (i + 1)).flatMap readBytes ++ post)) := by
          have e1 : full.drop at5 = ((numsOf reads[i]).take j).flatMap writeNum ++ (writeNum (numsOf reads[i])[j] ++ (((numsOf reads[i]).drop (j + 1)).flatMap writeNum ++ ((reads.drop (i + 1)).flatMap readBytes ++ post))) := by
            rw [hdj]
            have e2 : (numsOf reads[i]).flatMap writeNum = ((numsOf reads[i]).take j).flatMap writeNum ++ (writeNum (numsOf reads[i])[j] ++ ((numsOf reads[i]).drop (j + 1)).flatMap writeNum) := by
              rw [← flat_drop hjr, ← List.flatMap_append, List.take_append_drop]
            rw [e2]
            simp [List.append_assoc]
          exact drop_app e1
        obtain ⟨dx6, hx6, hl6⟩ := id o6
        refine ⟨_, rfl, _, _, _, rfl, hx6, rfl, x, l, full, _, (numsOf reads[i])[j], _, rfl, o6, hz, hdk, fun H7 b7 o7 => ⟨bb6.trans b7, ?_, _, _, rfl⟩⟩
        rw [flat_take hjr, List.length_append, ← Nat.add_assoc]
        exact o7
      · obtain ⟨bb6, o6, y, z, rfl⟩ := p
        rw [en2, List.take_length] at o6
        exact ⟨bb6, o6, _, _, rfl⟩
    · obtain ⟨bb, or, y, z, rfl⟩ := p
      rw [en, List.take_length] at or
      refine ⟨_, rfl, q _ t bb ?_⟩
      rw [track_len', ← Nat.add_assoc, ← Nat.add_assoc, ← Nat.add_assoc, hat3]
      exact or
end
end KW
end

section
set_option Elab.async false
set_option linter.all false
set_option maxRecDepth 100000
set_option maxHeartbeats 4000000
/-! images, the reading side: the whole image. -/
namespace KW
open PySem PySem.Spec PyProof.Rows L2 KR
section
variable {P : Program} {w : World} {K : PySem.W.Frag} {mg : Str → Option Value} {base : Heap}
theorem signs_a : val_SIGNS.cps.toList.filter (fun c => decide (V.int (((⟨#[c]⟩ : Str).cps.getD 0 0 : Nat) : Int) = V.int 97)) = [97] := by decide +kernel
theorem signs_len : val_SIGNS.cps.size ≤ 16777216 := by decide +kernel
theorem join_a : Txt.join (Str.ofString "") [(⟨#[97]⟩ : Str)] = noteA := by decide +kernel
def sp_codes_text (K : PySem.W.Frag) : Sp := fun vs H Q _ => ∃ a, vs = [.ref a] ∧ SqL K H a [.int 97] ∧ Ret H Q (.str noteA)
abbrev N_codes_text : List Str := ["values", "found", "value", "signs", "sign"]
theorem sc_codes_text : FnScope N_codes_text ["values"] (defScope s_codes_text) := ⟨rfl, rfl, rfl, by decide +kernel, rfl, by decide +kernel, by decide +kernel⟩
theorem ok_codes_text (W : T K mg) : Ok P w K mg base (1) "codes_text" ["values"] (sp_codes_text K) := by
  refine W.f_codes_text.F.ok sc_codes_text (fun vs H Q E h => ?_) (fun cdv A outer s H vs Q E hr h => ?_)
  · obtain ⟨a, rfl, _⟩ := h
    rfl
  · obtain ⟨a, rfl, hl, q⟩ := h
    refine ⟨_, PSs.nox ((pss_cons
       (ps_set (i := 1) sc_codes_text.nd rfl (Or.inl rfl) (pe_lst pa_nil))
       (pss_cons
       (ps_for PassesOwn.never rfl (pi_list (pv 0)) (pg_name (i := 2) sc_codes_text.nd rfl (Or.inr rfl)) (pss_cons
       (ps_setLc (i := 3) (own := [("sign", 4)]) rfl sc_codes_text.nd rfl rfl (sw_true rfl rfl rfl (by decide +kernel)) (pi_str (pgs W.s_SIGNS)) (blkOk_by (own := [("sign", 4)]) (N := N_codes_text) (sc := defScope s_codes_text) (by decide +kernel)) (fun _ _ _ _ _ => (pg_name (i := 4) sc_codes_text.nd rfl (Or.inl rfl))) (fun _ _ _ _ _ => (pts_one (pt_cmpR op_eq (pe_callB call_ord (by rfl) W.n_ord (by decide +kernel) (pa_cons (pv 4) pa_nil)) (pv 2) (nomark _)))) (fun _ _ _ _ _ => (pv 4)))
       (pss_cons
       (ps_if (pt_cmpR op_eq (pe_callB call_len_seq (by rfl) W.n_len (by decide +kernel) (pa_cons (pv 3) pa_nil)) pe_int (nomark _)) (pss_one
       ps_never) pss_nil)
       (pss_one
       (ps_expr (pe_bm PySem.F.plainAttrs_list PySem.F.slot_list_append PySem.F.type_list_append mt_append (pv 1) (pa_cons (pe_ix ix_list (pv 3) pe_int (fun _ _ => rfl)) pa_nil)))))))
       (pss_one
       (ps_ret (pe_join pe_str (pv 1))))))), ?_⟩
    refine ⟨Nat.zero_le _, fun o no => ?_⟩
    have s1 := Same.new (o := .lst []) no
    refine ⟨_, rfl, _, rfl, ⟨_, s1.seq hl⟩, ?_⟩
    refine for_list (xs := [.int 97]) (fun i σ H' => Same H H' ∧ H' o = some (.lst (if i = 0 then [] else [.str ⟨#[97]⟩])) ∧ ∃ y z u, σ = [some (.ref a), some (.ref o), y, z, u]) ⟨s1, by rw [if_pos rfl, upd_same], _, _, _, rfl⟩ (fun i σ H' _ p => p.1.seq hl) (fun i x σ H' hx p => ?_) fun σ H' p => ?_
    · obtain ⟨s, ho, y, z, u, rfl⟩ := p
      have hi0 : i = 0 ∧ x = .int 97 := by
        cases i with
        | zero => exact ⟨rfl, (Option.some.inj hx).symm⟩
        | succ i => simp at hx
      obtain ⟨rfl, rfl⟩ := hi0
      rw [if_pos rfl] at ho
      refine ⟨_, rfl, fun D nD => ?_⟩
      refine lc_str (z := val_SIGNS) OV (fun c => decide (V.int (((⟨#[c]⟩ : Str).cps.getD 0 0 : Nat) : Int) = V.int 97)) (fun c => V.str ⟨#[c]⟩) mono_OV signs_len nD (fun c H1 hc s2 hn k n hk hn' => ?_) fun H1 N zs s2 s3 nN hD r => ?_
      · refine ⟨rfl, _, rfl, _, rfl, rfl, _, rfl, rfl, _, rfl, ite2 (fun hb => ⟨_, rfl, hk hb _ _ (Same.refl _) rfl⟩) fun hb => hn' ?_ _ (Same.refl _)⟩
        exact eq_false_of_ne_true hb
      · have e := out_V r
        rw [signs_a] at e
        subst e
        have s23 := s2.trans s3
        have ho1 := s23 _ _ ho
        refine ⟨_, rfl, _, _, rfl, .inl (SqL.of hD), rfl, _, rfl, iteF ?_⟩
        refine ⟨_, rfl, .inl ⟨rfl, _, SqL.of ho1⟩, _, rfl, _, _, _, .str ⟨#[97]⟩, rfl, rfl, SqL.of hD, rfl, _, _, _, rfl, rfl, ho1, (by show 0 < sizeLine; decide), Same.mut (s.trans s23) no, ?_, _, _, _, rfl⟩
        rw [upd_same]
        rfl
    · obtain ⟨s, ho, y, z, u, rfl⟩ := p
      rw [if_neg (by show ¬ (1 : Nat) = 0; decide)] at ho
      refine ⟨⟨_, rfl⟩, _, rfl, _, o, [⟨#[97]⟩], rfl, rfl, .inl (SqL.of ho), by decide +kernel, ?_⟩
      rw [join_a]
      exact q _ s
theorem two_len (n : Int) : ∃ c1 c2, twoBytes n = [c1, c2] := ⟨_, _, rfl⟩
theorem cut_to {ns : List Int} {j : Nat} : cutV (ns.map V.int) none (some ((j : Nat) : Int)) = (ns.take j).map V.int := by
  unfold cutV
  rw [HT.sIx_none, HT.sIx_nat, List.drop_zero, Nat.sub_zero, List.map_take, List.length_map]
  by_cases h : j ≤ ns.length
  · rw [Nat.min_eq_left h]
  · rw [Nat.min_eq_right (by omega), List.take_of_length_le (by rw [List.length_map]; exact Nat.le_refl _), List.take_of_length_le (by rw [List.length_map]; omega)]
def sp_read_first (K : PySem.W.Frag) : Sp := fun vs H Q _ => ∃ x l rest, vs = [.ref x] ∧ ORdrK K (sealedL firstB ++ rest) 0 x l H ∧ (sealedL firstB ++ rest).length ≤ 1000000 ∧
  ∀ H' r, But x H H' → H' r = some (.tup [.int 40, .str noteA, .int 1]) → ORdrK K (sealedL firstB ++ rest) 9 x l H' → Q (.ref r) H'
abbrev N_read_first : List Str := ["reader", "cell", "note", "count", "part"]
theorem sc_read_first : FnScope N_read_first ["reader"] (defScope s_read_first) := ⟨rfl, rfl, rfl, by decide +kernel, rfl, by decide +kernel, by decide +kernel⟩
theorem ok_read_first (W : T K mg) : Ok P w K mg base (5) "read_first" ["reader"] (sp_read_first K) := by
  refine W.f_read_first.F.ok sc_read_first (fun vs H Q E h => ?_) (fun cdv A outer s H vs Q E hr h => ?_)
  · obtain ⟨x, l, rest, rfl, _⟩ := h
    rfl
  · obtain ⟨x, l, rest, rfl, ho, hz, q⟩ := h
    refine ⟨_, PSs.nox ((pss_cons
       (ps_if (pt_cmpR (op_neD hr.units) (pe_meth (pv 0) W.c_ImageReader.cl W.f_ImageReader_take.M (ok_ImageReader_take W) (hr.mono (by decide)) W.f_ImageReader_take.b .nil pass0 (pa_cons pe_int pa_nil)) (pe_callTy call_list_of (by rfl) W.n_list (by decide +kernel) (pa_cons (pgT W.T_FIRST_BYTES) pa_nil)) (nomark _)) (pss_one
       ps_never) pss_nil)
       (pss_cons
       (ps_set (i := 1) sc_read_first.nd rfl (Or.inl rfl) (pe_meth0 (pv 0) W.c_ImageReader.cl W.f_ImageReader_number.M (ok_ImageReader_number W) (hr.mono (by decide)) W.f_ImageReader_number.b .nil pass0))
       (pss_cons
       (ps_set (i := 2) sc_read_first.nd rfl (Or.inl rfl) (pe_call (ok_codes_text W) (hr.mono (by decide)) (by rfl) W.f_codes_text.g W.f_codes_text.F.kp W.f_codes_text.b .nil pass0 (pa_cons (pe_meth (pv 0) W.c_ImageReader.cl W.f_ImageReader_take.M (ok_ImageReader_take W) (hr.mono (by decide)) W.f_ImageReader_take.b .nil pass0 (pa_cons (pe_meth0 (pv 0) W.c_ImageReader.cl W.f_ImageReader_number.M (ok_ImageReader_number W) (hr.mono (by decide)) W.f_ImageReader_number.b .nil pass0) pa_nil)) pa_nil)))
       (pss_cons
       (ps_set (i := 3) sc_read_first.nd rfl (Or.inl rfl) (pe_meth0 (pv 0) W.c_ImageReader.cl W.f_ImageReader_number.M (ok_ImageReader_number W) (hr.mono (by decide)) W.f_ImageReader_number.b .nil pass0))
       (pss_cons
       (ps_set (i := 4) sc_read_first.nd rfl (Or.inl rfl) (pe_slice sl_list (pe_fld (pv 0) rfl) po_none (po_some (pe_fld (pv 0) rfl))))
       (pss_cons
       (ps_if (pt_cmpR (op_neD hr.units) (pe_meth (pv 0) W.c_ImageReader.cl W.f_ImageReader_take.M (ok_ImageReader_take W) (hr.mono (by decide)) W.f_ImageReader_take.b .nil pass0 (pa_cons pe_int pa_nil)) (pe_call (ok_two_bytes W) (hr.mono (by decide)) (by rfl) W.f_two_bytes.g W.f_two_bytes.F.kp W.f_two_bytes.b .nil pass0 (pa_cons (pe_call (ok_crc W) (hr.mono (by decide)) (by rfl) W.f_crc.g W.f_crc.F.kp W.f_crc.b .nil pass0 (pa_cons (pv 4) pa_nil)) pa_nil)) (nomark _)) (pss_one
       ps_never) pss_nil)
       (pss_one
       (ps_ret (pe_tup (pa_cons (pv 1) (pa_cons (pv 2) (pa_cons (pv 3) pa_nil))))))))))))), ?_⟩
    obtain ⟨c1, c2, hc⟩ := two_len (crcI firstB)
    have ef : sealedL firstB ++ rest = 68 :: 87 :: 73 :: 40 :: 1 :: 97 :: 1 :: c1 :: c2 :: rest := by
      unfold sealedL
      rw [hc]
      rfl
    rw [ef] at ho hz q
    generalize hF : 68 :: 87 :: 73 :: 40 :: 1 :: 97 :: 1 :: c1 :: c2 :: rest = full at ho hz q
    have hlen : 9 ≤ full.length := by
      rw [← hF]
      simp
    obtain ⟨dx, hx, hl⟩ := id ho
    -- the first three
    refine ⟨_, rfl, _, _, _, rfl, hx, rfl, x, l, full, 0, 3, rfl, ho, hz, by omega, fun H1 p b1 np hp o1 => ?_⟩
    refine ⟨_, _, rfl, .inr (W.T_FIRST_BYTES.2.sqT H1), fun p2 np2 => ?_⟩
    have s2 := Same.new (o := .lst (vals_FIRST_BYTES.map V.int)) np2
    refine rNeD_lst (ns := (full.drop 0).take 3) (ms := vals_FIRST_BYTES) (SqL.of (s2 _ _ hp)) (SqL.of upd_same) ⟨_, rfl, ?_⟩
    have e3 : (full.drop 0).take 3 = vals_FIRST_BYTES := by
      rw [← hF]
      rfl
    rw [e3, decide_eq_true rfl]
    refine iteF ?_
    have o2 := o1.mono s2
    obtain ⟨dx2, hx2, hl2⟩ := id o2
    have w40 : writeNum 40 = [40] := wn_small (by decide)
    have w1 : writeNum 1 = [1] := wn_small (by decide)
    -- cell
    refine ⟨_, rfl, _, _, _, rfl, hx2, rfl, x, l, full, 0 + 3, 40, 1 :: 97 :: 1 :: c1 :: c2 :: rest, rfl, o2, hz, by rw [← hF, w40]; rfl, fun H3 b3 o3 => ?_⟩
    rw [w40] at o3
    obtain ⟨dx3, hx3, hl3⟩ := id o3
    -- note
    refine ⟨_, rfl, _, _, _, rfl, hx3, rfl, _, rfl, _, _, _, rfl, hx3, rfl, x, l, full, 4, 1, 97 :: 1 :: c1 :: c2 :: rest, rfl, o3, hz, by rw [← hF, w1]; rfl, fun H4 b4 o4 => ?_⟩
    rw [w1] at o4
    refine ⟨x, l, full, 5, 1, rfl, o4, hz, by omega, fun H5 p5 b5 np5 hp5 o5 => ?_⟩
    have e5 : (full.drop 5).take 1 = [97] := by
      rw [← hF]
      rfl
    rw [e5] at hp5
    refine ⟨p5, rfl, SqL.of hp5, fun H6 s6 => ?_⟩
    have o6 := o5.mono s6
    obtain ⟨dx6, hx6, hl6⟩ := id o6
    -- count
    refine ⟨_, rfl, _, _, _, rfl, hx6, rfl, x, l, full, 6, 1, c1 :: c2 :: rest, rfl, o6, hz, by rw [← hF, w1]; rfl, fun H7 b7 o7 => ?_⟩
    rw [w1] at o7
    obtain ⟨dx7, hx7, hl7⟩ := id o7
    -- part
    refine ⟨_, rfl, _, _, _, _, _, rfl, hx7, W.c_ImageReader.cl, W.a_ImageReader_row, rfl, _, rfl, _, _, _, _, _, rfl, hx7, W.c_ImageReader.cl, W.a_ImageReader_at, rfl, _, rfl, _, _, rfl, SqL.of hl7, fun p8 np8 => ?_⟩
    have s8 := Same.new (o := .lst (cutV (full.map V.int) none (some ((7 : Nat) : Int)))) np8
    have hp8 : upd H7 p8 (.lst (cutV (full.map V.int) none (some ((7 : Nat) : Int)))) p8 = some (.lst (firstB.map V.int)) := by
      rw [upd_same, cut_to, ← hF]
      rfl
    have o8 := o7.mono s8
    obtain ⟨dx8, hx8, hl8⟩ := id o8
    have hpx : p8 ≠ x := ne_of hp8 hx8 (by intro z; cases z)
    -- the seal
    refine ⟨_, rfl, _, _, _, rfl, hx8, rfl, x, l, full, 7, 2, rfl, o8, hz, by omega, fun H9 p9 b9 np9 hp9 o9 => ?_⟩
    refine ⟨_, rfl, p8, firstB, rfl, SqL.of (b9 _ _ hpx hp8), fun H10 s10 => ⟨_, rfl, fun H11 p11 s11 np11 hp11 => ?_⟩⟩
    have e9 : (full.drop 7).take 2 = twoBytes (crcI firstB) := by
      rw [← hF, hc]
      rfl
    refine rNeD_lst (ns := (full.drop 7).take 2) (ms := twoBytes (crcI firstB)) (SqL.of ((s10.trans s11) _ _ hp9)) (SqL.of hp11) ⟨_, rfl, ?_⟩
    rw [e9, decide_eq_true rfl]
    refine iteF ?_
    refine ⟨_, rfl, _, rfl, _, rfl, (by show 3 ≤ sizeLine; decide), fun r nr => ?_⟩
    have sr := Same.new (o := .tup [.int 40, .str noteA, .int 1]) nr
    refine q _ r ?_ upd_same (o9.mono ((s10.trans s11).trans sr))
    exact (((((((b1.step s2).trans b3).trans b4).trans b5).step s6).trans b7).step s8).trans (b9.step ((s10.trans s11).trans sr))
def sp_right_track (K : PySem.W.Frag) : Sp := fun vs H Q _ => ∃ a reads, vs = [.ref a] ∧ H a = some (.lst ((trackPart 2 1 reads).map V.int)) ∧ Reads reads ∧
  ∀ H' r t p, Same H H' → H' r = some (.tup [.ref t, .ref p]) → H' t = some (.tup [.int 2, .int 1]) → ORow (OReadK K) reads (.ref p) H' → Q (.ref r) H'
abbrev N_right_track : List Str := ["part", "place", "reads"]
theorem sc_right_track : FnScope N_right_track ["part"] (defScope s_right_track) := ⟨rfl, rfl, rfl, by decide +kernel, rfl, by decide +kernel, by decide +kernel⟩
theorem ok_right_track (W : T K mg) : Ok P w K mg base (6) "right_track" ["part"] (sp_right_track K) := by
  refine W.f_right_track.F.ok sc_right_track (fun vs H Q E h => ?_) (fun cdv A outer s H vs Q E hr h => ?_)
  · obtain ⟨a, reads, rfl, _⟩ := h
    rfl
  · obtain ⟨a, reads, rfl, ha, hok, q⟩ := h
    refine ⟨_, PSs.nox ((pss_cons
       (ps_asg (pe_meth0 (pe_make W.c_ImageReader.mk' (ok_ImageReader_init W) (hr.mono (by decide)) (by rfl) W.c_ImageReader.g W.f_ImageReader_init.b .nil pass0 (pa_cons (pv 0) pa_nil)) W.c_ImageReader.cl W.f_ImageReader_read_track.M (ok_ImageReader_read_track W) (hr.mono (by decide)) W.f_ImageReader_read_track.b .nil pass0) (pg_tup rfl (pgs_cons (pg_name (i := 1) sc_right_track.nd rfl (Or.inl rfl)) (pgs_cons (pg_name (i := 2) sc_right_track.nd rfl (Or.inl rfl)) pgs_nil))))
       (pss_cons
       (ps_if (PW.pt (pw_or (pt_not (pt_val (pe_call (ok_is_place W) (hr.mono (by decide)) (by rfl) W.f_is_place.g W.f_is_place.F.kp W.f_is_place.b .nil pass0 (pa_cons (pv 1) pa_nil)))) (pw_or1 (pt_cmpR (op_neD hr.units) (pv 0) (pe_call (ok_track_part W) (hr.mono (by decide)) (by rfl) W.f_track_part.g W.f_track_part.F.kp W.f_track_part.b .nil pass0 (pa_cons (pv 1) (pa_cons (pv 2) pa_nil))) (nomark _))))) (pss_one
       ps_never) pss_nil)
       (pss_one
       (ps_ret (pe_tup (pa_cons (pv 1) (pa_cons (pv 2) pa_nil)))))))), ?_⟩
    have hz := trackPart_len (a := 2) (b := 1) (by decide) (by decide) hok
    refine ⟨_, rfl, fun x dx nx nd ne => ⟨x, dx, a, trackPart 2 1 reads, rfl, upd_same, ?_, fun H1 l b1 nl o1 => ⟨rfl, ?_⟩⟩⟩
    · rw [upd_ne (ne_of_none ha nx), upd_ne (ne_of_none ha nd)]
      exact ha
    have s1 : Same H H1 := But.made b1 nx nd
    obtain ⟨dx1, hx1, hl1⟩ := id o1
    refine ⟨_, _, _, rfl, hx1, rfl, x, l, trackPart 2 1 reads, 0, 2, 1, reads, [], rfl, o1, by omega, by rw [List.append_nil]; rfl, hok, fun H2 r t p b2 hr2 ht hp o2 => ?_⟩
    have s2 : Same H H2 := ((But.of s1).trans b2).same nx
    refine ⟨r, _, rfl, SqT.of hr2, rfl, _, _, rfl, _, _, rfl, rfl, ?_⟩
    refine ⟨_, rfl, t, rfl, ht, fun H3 s3 => ⟨_, rfl, iteF ?_⟩⟩
    refine ⟨_, rfl, _, rfl, _, rfl, t, 2, 1, .ref p, reads, rfl, s3 _ _ ht, mono_ORow mono_ORead _ _ _ _ s3 hp, hok, by decide, by decide, fun H4 p4 s4 np4 hp4 => ?_⟩
    refine rNeD_lst (ns := trackPart 2 1 reads) (ms := trackPart 2 1 reads) (SqL.of ((s2.trans (s3.trans s4)) _ _ ha)) (SqL.of hp4) ⟨_, rfl, ?_⟩
    rw [decide_eq_true rfl]
    refine iteF ⟨_, rfl, _, rfl, (by show 2 ≤ sizeLine; decide), fun r5 nr5 => ?_⟩
    have s5 := Same.new (o := .tup [.ref t, .ref p]) nr5
    have s35 := (s3.trans s4).trans s5
    exact q _ r5 t p (s2.trans s35) upd_same (s35 _ _ ht) (mono_ORow mono_ORead _ _ _ _ s35 hp)
def sp_read_tracks (K : PySem.W.Frag) : Sp := fun vs H Q _ => ∃ x l full at' reads, vs = [.ref x, .int 1] ∧ ORdrK K full at' x l H ∧ full.length ≤ 1000000 ∧ full.drop at' = trackPart 2 1 reads ++ twoBytes (crcI (trackPart 2 1 reads)) ∧ Reads reads ∧
  ∀ H' r d e rl, But x H H' → H d = none → H' r = some (.tup [.ref d, .ref e]) → H' d = some (.dT [(key21, .ref rl)]) → ORow (OReadK K) reads (.ref rl) H' → ORdrK K full full.length x l H' → Q (.ref r) H'
abbrev N_read_tracks : List Str := ["reader", "count", "tracks", "damaged", "before", "_", "start", "told", "part", "place", "reads"]
theorem sc_read_tracks : FnScope N_read_tracks ["reader", "count"] (defScope s_read_tracks) := ⟨rfl, rfl, rfl, by decide +kernel, rfl, by decide +kernel, by decide +kernel⟩
theorem ok_read_tracks (W : T K mg) : Ok P w K mg base (7) "read_tracks" ["reader", "count"] (sp_read_tracks K) := by
  refine W.f_read_tracks.F.ok sc_read_tracks (fun vs H Q E h => ?_) (fun cdv A outer s H vs Q E hr h => ?_)
  · obtain ⟨x, l, full, at', reads, rfl, _⟩ := h
    rfl
  · obtain ⟨x, l, full, at', reads, rfl, ho, hz, hd, hok, q⟩ := h
    have hu := hu_of hr
    refine ⟨_, PSs.nox ((pss_cons
       (ps_set (i := 2) sc_read_tracks.nd rfl (Or.inl rfl) pe_dnewT)
       (pss_cons
       (ps_set (i := 3) sc_read_tracks.nd rfl (Or.inl rfl) pe_dnewK)
       (pss_cons
       (ps_set (i := 4) sc_read_tracks.nd rfl (Or.inl rfl) (pe_tup (pa_cons (pe_un un_neg pe_int) (pa_cons pe_int pa_nil))))
       (pss_cons
       (ps_for PassesOwn.never rfl (pi_range1 rfl W.n_range (pa_cons (pv 1) pa_nil)) (pg_name (i := 5) sc_read_tracks.nd rfl (Or.inl rfl)) (pss_cons
       (ps_set (i := 6) sc_read_tracks.nd rfl (Or.inl rfl) (pe_fld (pv 0) rfl))
       (pss_cons
       (ps_set (i := 7) sc_read_tracks.nd rfl (Or.inl rfl) (pe_meth0 (pv 0) W.c_ImageReader.cl W.f_ImageReader_skip_track.M (ok_ImageReader_skip_track W) (hr.mono (by decide)) W.f_ImageReader_skip_track.b .nil pass0))
       (pss_cons
       (ps_set (i := 8) sc_read_tracks.nd rfl (Or.inl rfl) (pe_slice sl_list (pe_fld (pv 0) rfl) (po_some (pv 6)) (po_some (pe_fld (pv 0) rfl))))
       (pss_cons
       (ps_if (pt_cmpR (op_neD hr.units) (pe_meth (pv 0) W.c_ImageReader.cl W.f_ImageReader_take.M (ok_ImageReader_take W) (hr.mono (by decide)) W.f_ImageReader_take.b .nil pass0 (pa_cons pe_int pa_nil)) (pe_call (ok_two_bytes W) (hr.mono (by decide)) (by rfl) W.f_two_bytes.g W.f_two_bytes.F.kp W.f_two_bytes.b .nil pass0 (pa_cons (pe_call (ok_crc W) (hr.mono (by decide)) (by rfl) W.f_crc.g W.f_crc.F.kp W.f_crc.b .nil pass0 (pa_cons (pv 8) pa_nil)) pa_nil)) (nomark _)) (pss_cons
       (ps_dput hu (pv 3) (pv 7) pe_bl rfl)
       (pss_one
       ps_continue)) pss_nil)
       (pss_cons
       (ps_asg (pe_call (ok_right_track W) (hr.mono (by decide)) (by rfl) W.f_right_track.g W.f_right_track.F.kp W.f_right_track.b .nil pass0 (pa_cons (pv 8) pa_nil)) (pg_tup rfl (pgs_cons (pg_name (i := 9) sc_read_tracks.nd rfl (Or.inl rfl)) (pgs_cons (pg_name (i := 10) sc_read_tracks.nd rfl (Or.inl rfl)) pgs_nil))))
       (pss_cons
       (ps_if (pt_cmpR (op_leT hr.units0) (pv 9) (pv 4) (nomark _)) (pss_one
       ps_never) pss_nil)
       (pss_cons
       (ps_set (i := 4) sc_read_tracks.nd rfl (Or.inl rfl) (pv 9))
       (pss_one
       (ps_dput hu (pv 2) (pv 9) (pv 10) rfl))))))))))
       (pss_one
       (ps_ret (pe_tup (pa_cons (pv 2) (pa_cons (pe_callB (call_sortedD rfl) (by rfl) W.n_sorted (by decide +kernel) (pa_cons (pv 3) pa_nil)) pa_nil)))))))))), ?_⟩
    refine fun d nd => ?_
    have sd := Same.new (o := .dT []) nd
    refine fun e ne => ?_
    have se := Same.new (o := .dK []) ne
    refine ⟨_, rfl, (by show 2 ≤ sizeLine; decide), fun t0 nt0 => ?_⟩
    have st0 := Same.new (o := .tup [.int (-1), .int 0]) nt0
    have s0 := (sd.trans se).trans st0
    have hd0 := (se.trans st0) _ _ (upd_same (H := H) (a := d) (o := .dT []))
    have he0 := st0 _ _ (upd_same (H := upd H d (.dT [])) (a := e) (o := .dK []))
    have ht0 := upd_same (H := upd (upd H d (.dT [])) e (.dK [])) (a := t0) (o := .tup [.int (-1), .int 0])
    have o0 := ho.mono s0
    revert s0 hd0 he0 ht0 o0
    show _ → _ → _ → _ → _ → tSeq _ _ _ _ (upd (upd (upd H d (.dT [])) e (.dK [])) t0 (.tup [.int (-1), .int 0]))
    generalize upd (upd (upd H d (.dT [])) e (.dK [])) t0 (.tup [.int (-1), .int 0]) = H1
    intro s1 hd1 he1 ht1 o1
    have hlen := congrArg List.length hd
    rw [List.length_drop, List.length_append] at hlen
    have htw : (twoBytes (crcI (trackPart 2 1 reads))).length = 2 := rfl
    obtain ⟨dx1, hx1, hl1⟩ := id o1
    have hdx : d ≠ x := ne_of hd1 hx1 (by intro z; cases z)
    have hex : e ≠ x := ne_of he1 hx1 (by intro z; cases z)
    refine ⟨_, rfl, _, rfl, by decide, by decide, ?_⟩
    refine for_range (n := 1) (fun i σ H' => (i = 0 ∧ H' = H1 ∧ ∃ u1 u2 u3 u4 u5 u6, σ = [some (.ref x), some (.int 1), some (.ref d), some (.ref e), some (.ref t0), u1, u2, u3, u4, u5, u6]) ∨
      (i = 1 ∧ But x H H' ∧ (∃ rl, H' d = some (.dT [(key21, .ref rl)]) ∧ ORow (OReadK K) reads (.ref rl) H') ∧ H' e = some (.dK []) ∧ ORdrK K full full.length x l H' ∧ ∃ u0 u1 u2 u3 u4 u5 u6, σ = [some (.ref x), some (.int 1), some (.ref d), some (.ref e), u0, u1, u2, u3, u4, u5, u6]))
      (.inl ⟨rfl, rfl, _, _, _, _, _, _, rfl⟩) (fun i σ H' hi p => ?_) fun σ H' p => ?_
    · have hi0 : i = 0 := by omega
      subst hi0
      rcases p with ⟨_, rfl, u1, u2, u3, u4, u5, u6, rfl⟩ | ⟨h1, _⟩
      · refine ⟨_, rfl, _, _, _, _, _, rfl, hx1, W.c_ImageReader.cl, W.a_ImageReader_at, rfl, ?_⟩
        refine ⟨_, rfl, _, _, _, rfl, hx1, rfl, x, l, full, at', 2, 1, reads, _, rfl, o1, hz, hd, hok, fun H2 t2 b2 o2 => ?_⟩
        obtain ⟨dx2, hx2, hl2⟩ := id o2
        -- part
        refine ⟨_, rfl, _, _, _, _, _, rfl, hx2, W.c_ImageReader.cl, W.a_ImageReader_row, rfl, _, rfl, _, rfl, _, rfl, _, _, _, _, _, rfl, hx2, W.c_ImageReader.cl, W.a_ImageReader_at, rfl, _, rfl, _, _, rfl, SqL.of hl2, fun p3 np3 => ?_⟩
        have hp3 : upd H2 p3 (.lst (cutV (full.map V.int) (some ((at' : Nat) : Int)) (some ((at' + (trackPart 2 1 reads).length : Nat) : Int)))) p3 = some (.lst ((trackPart 2 1 reads).map V.int)) := by
          rw [upd_same, cutV_nat (by omega), Nat.add_sub_cancel_left, ← List.map_drop, hd, ← List.map_take, List.take_left]
        have s3 := Same.new (o := .lst (cutV (full.map V.int) (some ((at' : Nat) : Int)) (some ((at' + (trackPart 2 1 reads).length : Nat) : Int)))) np3
        have o3 := o2.mono s3
        obtain ⟨dx3, hx3, hl3⟩ := id o3
        have hp3x := ne_of hp3 hx3 (by intro z; cases z)
        have hd3 := drop_app hd
        -- the seal
        refine ⟨_, rfl, _, _, _, rfl, hx3, rfl, x, l, full, at' + (trackPart 2 1 reads).length, 2, rfl, o3, hz, by omega, fun H4 p4 b4 np4 hp4 o4 => ?_⟩
        rw [hd3] at hp4
        refine ⟨_, rfl, p3, trackPart 2 1 reads, rfl, SqL.of (b4 _ _ hp3x hp3), fun H5 s5 => ⟨_, rfl, fun H6 p6 s6 np6 hp6 => ?_⟩⟩
        have s56 := s5.trans s6
        refine rNeD_lst (ns := (twoBytes (crcI (trackPart 2 1 reads))).take 2) (ms := twoBytes (crcI (trackPart 2 1 reads))) (SqL.of (s56 _ _ hp4)) (SqL.of hp6) ⟨_, rfl, ?_⟩
        rw [List.take_of_length_le (by rw [htw]; exact Nat.le_refl _), decide_eq_true rfl]
        refine iteF ?_
        -- the track
        have hp36 := s56 _ _ (b4 _ _ hp3x hp3)
        refine ⟨_, rfl, p3, reads, rfl, hp36, hok, fun H7 r7 t7 p7 s7 hr7 ht7 hrow7 => ?_⟩
        refine ⟨r7, _, rfl, SqT.of hr7, rfl, _, _, rfl, _, _, rfl, rfl, ?_⟩
        have b17 : But x _ H7 := ((b2.step s3).trans b4).step (s56.trans s7)
        have ht0x := ne_of ht1 hx1 (by intro z; cases z)
        refine ⟨_, rfl, _, rfl, t7, t0, [2, 1], [-1, 0], rfl, rfl, SqT.of ht7, SqT.of (b17 _ _ ht0x ht1), _, rfl, ifF (by decide) ?_⟩
        refine ⟨_, rfl, _, rfl, _, rfl, _, rfl, d, _, rfl, DPut.t (kvs := []) (k := key21) (b17 _ _ hdx hd1) ht7 (by show 0 < sizeLine; decide), ?_⟩
        have hd7 := b17 _ _ hdx hd1
        have o7 := (o4.mono s56).mono s7
        obtain ⟨dx7, hx7, hl7⟩ := id o7
        have efl : at' + (trackPart 2 1 reads).length + 2 = full.length := by omega
        rw [efl] at o7 hx7
        refine .inr ⟨rfl, ?_, ⟨p7, upd_same, rows_locked hd7 hrow7⟩, ?_, ?_, _, _, _, _, _, _, _, rfl⟩
        · intro c o n ec
          rw [upd_ne (ne_of_none ec nd)]
          exact b17 _ _ n (s1 _ _ ec)
        · have hed : e ≠ d := ne_of he1 hd1 (by intro z; cases z)
          rw [upd_ne hed]
          exact b17 _ _ hex he1
        · exact ⟨dx7, by rw [upd_ne hdx.symm]; exact hx7, by rw [upd_ne (ne_of hl7 hd7 (by intro z; cases z))]; exact hl7⟩
      · exact absurd h1 (by decide)
    · rcases p with ⟨h1, _⟩ | ⟨_, bb, ⟨rl, hd', hrow⟩, he', or, u0, u1, u2, u3, u4, u5, u6, rfl⟩
      · exact absurd h1 (by decide)
      · refine ⟨_, rfl, _, rfl, e, [], [], rfl, .inl he', rfl, by decide, fun ys p hys _ np => ⟨(by show 2 ≤ sizeLine; decide), fun r nr => ?_⟩⟩
        have sp := (Same.new (o := .lst (ys.map V.str)) np)
        have sr := sp.trans (Same.new (o := .tup [.ref d, .ref p]) nr)
        exact q _ r d p rl (bb.step sr) nd upd_same (sr _ _ hd') (mono_ORow mono_ORead _ _ _ _ sr hrow) (or.mono sr)
def sp_read_image (K : PySem.W.Frag) : Sp := fun vs H Q _ => ∃ a reads, vs = [.ref a] ∧ H a = some (.lst ((imageBytes reads).map V.int)) ∧ Reads reads ∧
  ∀ H' r x d e, Same H H' → H d = none → H' r = some (.tup [.ref x, .ref e]) → OImgK K reads x d H' → Q (.ref r) H'
abbrev N_read_image : List Str := ["values", "reader", "cell", "note", "count", "tracks", "damaged"]
theorem sc_read_image : FnScope N_read_image ["values"] (defScope s_read_image) := ⟨rfl, rfl, rfl, by decide +kernel, rfl, by decide +kernel, by decide +kernel⟩
theorem ok_read_image (W : T K mg) : Ok P w K mg base (8) "read_image" ["values"] (sp_read_image K) := by
  refine W.f_read_image.F.ok sc_read_image (fun vs H Q E h => ?_) (fun cdv A outer s H vs Q E hr h => ?_)
  · obtain ⟨a, reads, rfl, _⟩ := h
    rfl
  · obtain ⟨a, reads, rfl, ha, hok, q⟩ := h
    refine ⟨_, PSs.nox ((pss_cons
       (ps_set (i := 1) sc_read_image.nd rfl (Or.inl rfl) (pe_make W.c_ImageReader.mk' (ok_ImageReader_init W) (hr.mono (by decide)) (by rfl) W.c_ImageReader.g W.f_ImageReader_init.b .nil pass0 (pa_cons (pv 0) pa_nil)))
       (pss_cons
       (ps_asg (pe_call (ok_read_first W) (hr.mono (by decide)) (by rfl) W.f_read_first.g W.f_read_first.F.kp W.f_read_first.b .nil pass0 (pa_cons (pv 1) pa_nil)) (pg_tup rfl (pgs_cons (pg_name (i := 2) sc_read_image.nd rfl (Or.inl rfl)) (pgs_cons (pg_name (i := 3) sc_read_image.nd rfl (Or.inl rfl)) (pgs_cons (pg_name (i := 4) sc_read_image.nd rfl (Or.inl rfl)) pgs_nil)))))
       (pss_cons
       (ps_if (pt_cmpR (op_neD hr.units) (pe_call (ok_first_bytes_of W) (hr.mono (by decide)) (by rfl) W.f_first_bytes_of.g W.f_first_bytes_of.F.kp W.f_first_bytes_of.b .nil pass0 (pa_cons (pv 2) (pa_cons (pv 3) (pa_cons (pv 4) pa_nil)))) (pe_slice sl_list (pe_fld (pv 1) rfl) po_none (po_some (pe_op op_sub (pe_fld (pv 1) rfl) pe_int))) (nomark _)) (pss_one
       ps_never) pss_nil)
       (pss_cons
       (ps_asg (pe_call (ok_read_tracks W) (hr.mono (by decide)) (by rfl) W.f_read_tracks.g W.f_read_tracks.F.kp W.f_read_tracks.b .nil pass0 (pa_cons (pv 1) (pa_cons (pv 4) pa_nil))) (pg_tup rfl (pgs_cons (pg_name (i := 5) sc_read_image.nd rfl (Or.inl rfl)) (pgs_cons (pg_name (i := 6) sc_read_image.nd rfl (Or.inl rfl)) pgs_nil))))
       (pss_cons
       (ps_if (pt_cmpR op_ne (pe_fld (pv 1) rfl) (pe_callB call_len_seq (by rfl) W.n_len (by decide +kernel) (pa_cons (pe_fld (pv 1) rfl) pa_nil)) (nomark _)) (pss_one
       ps_never) pss_nil)
       (pss_one
       (ps_try_thru0 (pss_one
       (ps_ret (pe_tup (pa_cons (pe_make W.c_Image.mk' (ok_Image_init W) (hr.mono (by decide)) (by rfl) W.c_Image.g W.f_Image_init.b .nil pass0 (pa_cons (pv 2) (pa_cons (pv 3) (pa_cons (pv 5) pa_nil)))) (pa_cons (pv 6) pa_nil))))))))))))), ?_⟩
    have htl := trackPart_len (a := 2) (b := 1) (by decide) (by decide) hok
    have hz : (sealedL firstB ++ sealedL (trackPart 2 1 reads)).length ≤ 1000000 := by
      unfold sealedL
      rw [List.length_append, List.length_append, List.length_append]
      show 7 + 2 + (_ + 2) ≤ 1000000
      omega
    have ha' : H a = some (.lst ((sealedL firstB ++ sealedL (trackPart 2 1 reads)).map V.int)) := ha
    have hd9 : (sealedL firstB ++ sealedL (trackPart 2 1 reads)).drop 9 = trackPart 2 1 reads ++ twoBytes (crcI (trackPart 2 1 reads)) := by
      have e : (sealedL firstB).length = 9 := rfl
      rw [← e, List.drop_left]
      rfl
    have ht7 : (sealedL firstB ++ sealedL (trackPart 2 1 reads)).take 7 = firstB := rfl
    generalize hF : sealedL firstB ++ sealedL (trackPart 2 1 reads) = full at ha' hz hd9 ht7
    refine ⟨_, rfl, fun x dx nx nd ne => ⟨x, dx, a, full, rfl, upd_same, ?_, fun H1 l b1 nl o1 => ⟨rfl, ?_⟩⟩⟩
    · rw [upd_ne (ne_of_none ha' nx), upd_ne (ne_of_none ha' nd)]
      exact ha'
    have s1 : Same H H1 := But.made b1 nx nd
    rw [← hF] at o1 hz
    refine ⟨_, rfl, x, l, sealedL (trackPart 2 1 reads), rfl, o1, hz, fun H2 r2 b2 hr2 o2 => ?_⟩
    rw [hF] at o2 hz
    have s2 : Same H H2 := ((But.of s1).trans b2).same nx
    obtain ⟨dx2, hx2, hl2⟩ := id o2
    refine ⟨r2, _, rfl, SqT.of hr2, rfl, _, _, rfl, _, _, rfl, _, _, rfl, rfl, ?_⟩
    -- the first bytes again
    refine ⟨_, rfl, _, rfl, _, rfl, rfl, fun H3 p3 s3 np3 hp3 => ?_⟩
    have o3 := o2.mono s3
    obtain ⟨dx3, hx3, hl3⟩ := id o3
    refine ⟨_, rfl, _, _, _, _, _, rfl, hx3, W.c_ImageReader.cl, W.a_ImageReader_row, rfl, _, rfl, _, _, _, _, _, rfl, hx3, W.c_ImageReader.cl, W.a_ImageReader_at, rfl, _, _, rfl, rfl, _, rfl, _, _, rfl, SqL.of hl3, fun p4 np4 => ?_⟩
    have s4 := Same.new (o := .lst (cutV (full.map V.int) none (some ((7 : Nat) : Int)))) np4
    refine rNeD_lst (ns := firstB) (ms := firstB) (SqL.of (s4 _ _ hp3)) (SqL.of ?_) ⟨_, rfl, ?_⟩
    · show upd H3 p4 (.lst (cutV (full.map V.int) none (some ((7 : Nat) : Int)))) p4 = _
      rw [upd_same, cut_to, ht7]
    rw [decide_eq_true rfl]
    refine iteF ?_
    have o4 := o3.mono s4
    have s24 := s2.trans (s3.trans s4)
    -- the tracks
    refine ⟨_, rfl, _, rfl, x, l, full, 9, reads, rfl, o4, hz, hd9, hok, fun H5 r5 d5 e5 rl b5 nd5 hr5 hd5 hrow o5 => ?_⟩
    have s5 : Same H H5 := ((But.of s24).trans b5).same nx
    have nd5H : H d5 = none := s24.free nd5
    obtain ⟨dx5, hx5, hl5⟩ := id o5
    refine ⟨r5, _, rfl, SqT.of hr5, rfl, _, _, rfl, _, _, rfl, rfl, ?_⟩
    refine ⟨_, rfl, _, _, _, _, _, rfl, hx5, W.c_ImageReader.cl, W.a_ImageReader_at, rfl, _, rfl, _, _, _, _, _, rfl, hx5, W.c_ImageReader.cl, W.a_ImageReader_row, rfl, _, _, rfl, .inl (SqL.of hl5), rfl, _, rfl, ?_⟩
    refine iteNS (by rw [List.length_map]) ?_
    -- the image
    refine ⟨_, rfl, _, rfl, _, rfl, fun x6 dx6 nx6 ndx6 ne6 => ?_⟩
    have s6 : Same H5 (upd (upd H5 dx6 (.own x6)) x6 (.ins (He.ga K "Image") dx6 [])) := But.made But.refl nx6 ndx6
    refine ⟨x6, dx6, d5, rl, reads, rfl, upd_same, s6 _ _ hd5, mono_ORow mono_ORead _ _ _ _ s6 hrow, hok, fun H7 d7 b7 nd7 o7 => ⟨rfl, _, rfl, (by show 2 ≤ sizeLine; decide), fun r8 nr8 => ?_⟩⟩
    have s57 : Same H5 H7 := But.made b7 nx6 ndx6
    have s8 := Same.new (o := .tup [.ref x6, .ref e5]) nr8
    exact q _ r8 x6 d7 e5 (s5.trans (s57.trans s8)) (s5.free (s6.free nd7)) upd_same (o7.mono s8)
end
end KW
end

section
set_option Elab.async false
set_option linter.all false
set_option maxRecDepth 100000
set_option maxHeartbeats 4000000
/-! the law's own draws. -/
namespace KW
open PySem PySem.Spec PyProof.Rows L2 KR
section
variable {P : Program} {w : World} {K : PySem.W.Frag} {mg : Str → Option Value} {base : Heap}
/-- a plan's row -/
def OPl : SecD → V → Hp → Prop := fun s y H => ∃ p t d, y = .ref p ∧ H p = some (.tup [.ref t, d, .bl s.aw, .bl s.dw]) ∧ H t = some (.tup (s.adr.map V.int)) ∧ ODatL s.data d H
theorem mono_OPl : Mono OPl := fun _ _ _ _ s ⟨p, t, d, e, h1, h2, h3⟩ => ⟨p, t, d, e, s _ _ h1, s _ _ h2, mono_ODatL _ _ _ _ s h3⟩
def sp_law_made (K : PySem.W.Frag) : Sp := fun vs H Q _ => ∃ y secs, vs = [y] ∧ ORow OPl secs y H ∧ secs.length ≤ 10 ∧ ∀ H' y, Same H H' → ORow (OSecK K) secs y H' → Q y H'
abbrev N_law_made : List Str := ["_law_sectors", "_law_address", "_law_data", "_law_one", "_law_two"]
theorem sc_law_made : FnScope N_law_made ["_law_sectors"] (defScope s_law_made) := ⟨rfl, rfl, rfl, by decide +kernel, rfl, by decide +kernel, by decide +kernel⟩
theorem ok_law_made (W : T K mg) : Ok P w K mg base (3) "_law_made" ["_law_sectors"] (sp_law_made K) := by
  refine W.f_law_made.F.ok sc_law_made (fun vs H Q E h => ?_) (fun cdv A outer s H vs Q E hr h => ?_)
  · obtain ⟨y, secs, rfl, _⟩ := h
    rfl
  · obtain ⟨_, secs, rfl, ⟨p, ys, rfl, hp, hpr⟩, hz, q⟩ := h
    refine ⟨_, PSs.nox ((pss_one
       (ps_ret (pe_lc (own := [("_law_address", 1), ("_law_data", 2), ("_law_one", 3), ("_law_two", 4)]) rfl sc_law_made.nd (pi_list (pv 0)) (blkOk_by (own := [("_law_address", 1), ("_law_data", 2), ("_law_one", 3), ("_law_two", 4)]) (N := N_law_made) (sc := defScope s_law_made) (by decide +kernel)) (fun _ _ _ _ _ => (pg_tupK (K := K) (n := 4) rfl rfl (pgs_cons (pg_name (i := 1) sc_law_made.nd rfl (Or.inl rfl)) (pgs_cons (pg_name (i := 2) sc_law_made.nd rfl (Or.inl rfl)) (pgs_cons (pg_name (i := 3) sc_law_made.nd rfl (Or.inl rfl)) (pgs_cons (pg_name (i := 4) sc_law_made.nd rfl (Or.inl rfl)) pgs_nil)))))) (fun _ _ _ _ _ => pts_nil) (fun _ _ _ _ _ => (pe_makeK W.c_Sector.mk' (ok_Sector_init W) (hr.mono (by decide)) (by rfl) W.c_Sector.g W.f_Sector_init.bk pass0 (pa_cons (pv 1) (pa_cons (pv 2) pa_nil)) (pk_cons (pv 3) (pk_cons (pv 4) pk_nil)))))))), ?_⟩
    refine ⟨_, rfl, _, rfl, ⟨_, SqL.of hp⟩, fun D nD => ?_⟩
    refine lc_all secs (fun s x H' => OPl s x H' ∧ OPl s x H) (OSecK K) yes id (fun e y H H' s h => ⟨mono_OPl _ _ _ _ s h.1, h.2⟩) mono_OSec (Paired.mapP hpr fun e y z => ⟨z, z⟩) (SqL.of hp) (by rw [← Paired.length hpr]; show _ ≤ 16777216; omega) nD (fun s x H1 hm s1 ho hn k n hk _ => ?_) fun H1 N zs s1 s2 nN hy r => ?_
    · obtain ⟨_, ⟨t, ta, d, rfl, ht, hta, hd⟩⟩ := ho
      have ht1 := s1 _ _ ht
      have hta1 := s1 _ _ hta
      have hd1 := mono_ODatL _ _ _ _ s1 hd
      refine ⟨t, _, rfl, SqT.of ht1, rfl, _, _, rfl, _, _, rfl, _, _, rfl, _, _, rfl, rfl, rfl, ?_⟩
      refine ⟨_, rfl, _, rfl, _, rfl, _, rfl, rfl, rfl, fun x dx nx nd ne => ?_⟩
      have s2 : Same H1 (upd (upd H1 dx (.own x)) x (.ins (He.ga K "Sector") dx [])) := But.made But.refl nx nd
      refine ⟨x, dx, ta, d, s, rfl, upd_same, s2 _ _ hta1, mono_ODatL _ _ _ _ s2 hd1, fun H2 d' b2 hd' hx => ⟨rfl, ?_⟩⟩
      have s12 : Same H1 H2 := But.made b2 nx nd
      have hxD : x ≠ D := fun z => hn (by rw [← z]; exact nx)
      have htaD : ta ≠ D := ne_of_none hta nD
      refine hk rfl _ _ s12 ⟨x, dx, ta, d', rfl, by rw [del_ne hxD]; exact hx, by rw [del_ne htaD]; exact s12 _ _ hta1, ?_⟩
      refine mono_ODat _ _ _ _ (fun b o e => ?_) hd'
      have hb := fresh_none (H := upd (upd H1 dx (.own x)) x (.ins (He.ga K "Sector") dx [])) (H' := H2) (b := b) (by rw [e]; intro z; cases z)
      have hbD : b ≠ D := by
        intro z
        subst z
        exact hn (s2.free hb)
      rw [del_ne hbD]
      exact fresh_sub _ _ e
    · rw [filter_yes, List.map_id] at r
      exact q _ _ (s1.trans s2) ⟨D, zs, rfl, hy, Paired.mapP r fun e y z => mono_OSec _ _ _ _ s2 z⟩
/-- the pool at p, its script at q -/
def OPool (p q : Addr) (ns : List Int) (H : Hp) : Prop := ∃ (i : Nat) (c k s : Int), H p = some (.lst [.ref q, .int (i : Int), .int c, .int k, .int s]) ∧ H q = some (.lst (ns.map V.int)) ∧ p ≠ q
theorem OPool.mono {p q : Addr} {ns : List Int} {H H' : Hp} (h : OPool p q ns H) (s : Same H H') : OPool p q ns H' := by
  obtain ⟨i, c, k, t, h1, h2, h3⟩ := h
  exact ⟨i, c, k, t, s _ _ h1, s _ _ h2, h3⟩
theorem OPool.at_ {p q : Addr} {ns : List Int} {H : Hp} (h : OPool p q ns H) : ∃ o, H p = some o := by
  obtain ⟨i, c, k, t, h1, h2, h3⟩ := h
  exact ⟨_, h1⟩
theorem OPool.at2 {p q : Addr} {ns : List Int} {H : Hp} (h : OPool p q ns H) : ∃ o, H q = some o := by
  obtain ⟨i, c, k, t, h1, h2, h3⟩ := h
  exact ⟨_, h2⟩
/-- another object is set -/
theorem OPool.upd {p q a : Addr} {ns : List Int} {H : Hp} {o : HO} (h : OPool p q ns H) (hp : a ≠ p) (hq : a ≠ q) : OPool p q ns (L2.upd H a o) := by
  obtain ⟨i, c, k, t, h1, h2, h3⟩ := h
  exact ⟨i, c, k, t, by rw [upd_ne hp.symm]; exact h1, by rw [upd_ne hq.symm]; exact h2, h3⟩
def sp_law_pool (K : PySem.W.Frag) : Sp := fun vs H Q _ => ∃ (a : Addr) (ns : List Int), vs = [.ref a] ∧ SqL K H a (ns.map V.int) ∧ ∀ H' p q, Same H H' → H p = none → H q = none → OPool p q ns H' → Q (.ref p) H'
abbrev N_law_pool : List Str := ["_law_script", "_law_salt", "_law_cell"]
theorem sc_law_pool : FnScope N_law_pool ["_law_script"] (defScope s_law_pool) := ⟨rfl, rfl, rfl, by decide +kernel, rfl, by decide +kernel, by decide +kernel⟩
theorem ok_law_pool (W : T K mg) : Ok P w K mg base (1) "_law_pool" ["_law_script"] (sp_law_pool K) := by
  refine W.f_law_pool.F.ok sc_law_pool (fun vs H Q E h => ?_) (fun cdv A outer s H vs Q E hr h => ?_)
  · obtain ⟨a, ns, rfl, _⟩ := h
    rfl
  · obtain ⟨a, ns, rfl, hl, q⟩ := h
    refine ⟨_, PSs.nox ((pss_cons
       (ps_set (i := 1) sc_law_pool.nd rfl (Or.inl rfl) pe_int)
       (pss_cons
       (ps_for PassesOwn.never rfl (pi_list (pe_slice sl_list (pv 0) po_none (po_some pe_int))) (pg_name (i := 2) sc_law_pool.nd rfl (Or.inl rfl)) (pss_one
       (ps_set (i := 1) sc_law_pool.nd rfl (Or.inl rfl) (pe_op op_mod (pe_callTy call_int1 (by rfl) W.n_int (by decide +kernel) (pa_cons (pe_op op_add (pe_op op_mul (pv 1) pe_int) (pv 2)) pa_nil)) pe_int))))
       (pss_one
       (ps_ret (pe_lst (pa_cons (pe_callTy call_list_of (by rfl) W.n_list (by decide +kernel) (pa_cons (pv 0) pa_nil)) (pa_cons pe_int (pa_cons pe_int (pa_cons pe_int (pa_cons (pv 1) pa_nil))))))))))), ?_⟩
    refine ⟨_, rfl, _, rfl, _, _, rfl, hl, fun c nc => ?_⟩
    have s1 := Same.new (o := .lst (cutV (ns.map V.int) none (some 63))) nc
    have hc : upd H c (.lst (cutV (ns.map V.int) none (some 63))) c = some (.lst ((ns.take 63).map V.int)) := by
      rw [upd_same]
      exact congrArg (fun z => some (HO.lst z)) (cut_to (ns := ns) (j := 63))
    refine ⟨_, rfl, ⟨_, SqL.of hc⟩, ?_⟩
    refine for_list (xs := (ns.take 63).map V.int) (fun i σ H' => H' = upd H c (.lst (cutV (ns.map V.int) none (some 63))) ∧ ∃ (z : Int) (y : Option V), σ = [some (.ref a), some (.int z), y]) ⟨rfl, _, _, rfl⟩ (fun i σ H' _ p => by rw [p.1]; exact SqL.of hc) (fun i x σ H' hx p => ?_) fun σ H' p => ?_
    · obtain ⟨rfl, z, y, rfl⟩ := p
      obtain ⟨n, hn, rfl⟩ := map_at hx
      exact ⟨_, rfl, _, _, rfl, rfl, .inr ⟨by decide, by decide⟩, _, rfl, _, _, rfl, rfl, .inl ⟨_, rfl, _, _, rfl, rfl, (by show (0 : Int) < 1000003; decide), rfl, _, _, rfl⟩⟩
    · obtain ⟨rfl, z, y, rfl⟩ := p
      refine ⟨_, rfl, _, _, rfl, .inl (s1.seq hl), fun l nl => ⟨_, rfl, (by show 5 ≤ sizeLine; decide), fun p np => ?_⟩⟩
      have s2 := Same.new (o := .lst (ns.map V.int)) nl
      have s3 := Same.new (o := .lst [.ref l, .int 0, .int 0, .int 0, .int z]) np
      have hlp : p ≠ l := (ne_of_none (upd_same (a := l) (o := .lst (ns.map V.int))) np).symm
      exact q _ p l ((s1.trans s2).trans s3) ((s1.trans s2).free np) (s1.free nl) ⟨0, 0, 0, z, upd_same, s3 _ _ upd_same, hlp⟩
def sp_law_spread (K : PySem.W.Frag) : Sp := fun vs H Q _ => ∃ c, vs = [.int c] ∧ ∀ n, Q (.int n) H
abbrev N_law_spread : List Str := ["_law_cell", "_law_mixed", "_law_wide", "_law_k"]
theorem sc_law_spread : FnScope N_law_spread ["_law_cell"] (defScope s_law_spread) := ⟨rfl, rfl, rfl, by decide +kernel, rfl, by decide +kernel, by decide +kernel⟩
theorem ok_law_spread (W : T K mg) : Ok P w K mg base (1) "_law_spread" ["_law_cell"] (sp_law_spread K) := by
  refine W.f_law_spread.F.ok sc_law_spread (fun vs H Q E h => ?_) (fun cdv A outer s H vs Q E hr h => ?_)
  · obtain ⟨c, rfl, _⟩ := h
    rfl
  · obtain ⟨c, rfl, q⟩ := h
    refine ⟨_, PSs.nox ((pss_cons
       (ps_set (i := 1) sc_law_spread.nd rfl (Or.inl rfl) (pe_op op_mod (pe_callTy call_int1 (by rfl) W.n_int (by decide +kernel) (pa_cons (pv 0) pa_nil)) pe_int))
       (pss_cons
       (ps_set (i := 2) sc_law_spread.nd rfl (Or.inl rfl) pe_int)
       (pss_cons
       (ps_for PassesOwn.never rfl (pi_range1 rfl W.n_range (pa_cons pe_int pa_nil)) (pg_name (i := 3) sc_law_spread.nd rfl (Or.inl rfl)) (pss_cons
       (ps_set (i := 1) sc_law_spread.nd rfl (Or.inl rfl) (pe_op op_mod (pe_callTy call_int1 (by rfl) W.n_int (by decide +kernel) (pa_cons (pe_op op_add (pe_op op_add (pe_op op_mul (pv 1) pe_int) pe_int) (pv 3)) pa_nil)) pe_int))
       (pss_one
       (ps_set (i := 2) sc_law_spread.nd rfl (Or.inl rfl) (pe_op op_add (pe_op op_mul (pv 2) pe_int) (pv 1))))))
       (pss_one
       (ps_ret (pv 2))))))), ?_⟩
    refine ⟨_, rfl, .inl ⟨_, rfl, _, _, rfl, rfl, (by show (0 : Int) < 2147483647; decide), ?_⟩⟩
    refine ⟨4, rfl, by decide, by decide, ?_⟩
    refine for_range (n := 4) (fun i σ H' => H' = H ∧ ∃ (a b : Int) (z : Option V), σ = [some (.int c), some (.int a), some (.int b), z]) ⟨rfl, _, _, _, rfl⟩ (fun i σ H' hi p => ?_) fun σ H' p => ?_
    · obtain ⟨rfl, a, b, z, rfl⟩ := p
      exact ⟨_, rfl, _, _, rfl, rfl, .inr ⟨by decide, by decide⟩, _, _, rfl, rfl, _, rfl, _, _, rfl, rfl, .inl ⟨_, rfl, _, _, rfl, rfl, (by show (0 : Int) < 2147483647; decide), _, rfl, _, _, rfl, rfl, .inr ⟨by decide, by decide⟩, _, rfl, _, _, rfl, rfl, rfl, _, _, _, rfl⟩⟩
    · obtain ⟨rfl, a, b, z, rfl⟩ := p
      exact ⟨_, rfl, q b⟩
def sp_law_draw (K : PySem.W.Frag) : Sp := fun vs H Q _ => ∃ p q' ns m, vs = [.ref p, .int m] ∧ OPool p q' ns H ∧ 0 < m ∧ m < 1073741824 ∧ ∀ H' n, But p H H' → OPool p q' ns H' → 0 ≤ n → n < m → Q (.int n) H'
abbrev N_law_draw : List Str := ["_law_pool_here", "_law_many", "_law_cell", "_law_mixed", "_law_value"]
theorem sc_law_draw : FnScope N_law_draw ["_law_pool_here", "_law_many"] (defScope s_law_draw) := ⟨rfl, rfl, rfl, by decide +kernel, rfl, by decide +kernel, by decide +kernel⟩
theorem ok_law_draw (W : T K mg) : Ok P w K mg base (2) "_law_draw" ["_law_pool_here", "_law_many"] (sp_law_draw K) := by
  refine W.f_law_draw.F.ok sc_law_draw (fun vs H Q E h => ?_) (fun cdv A outer s H vs Q E hr h => ?_)
  · obtain ⟨p, q', ns, m, rfl, _⟩ := h
    rfl
  · obtain ⟨p, q', ns, m, rfl, ⟨i1, c0, k1, s1, HP0, HQ0, hpq⟩, hm, hm2, q⟩ := h
    refine ⟨_, PSs.nox ((pss_cons
       (ps_if (PW.pt (pw_and (pt_cmpR op_le (pe_ix ix_list (pv 0) pe_int (fun _ _ => rfl)) pe_int (nomark _)) (pw_and1 (pt_cmpR op_lt (pe_ix ix_list (pv 0) pe_int (fun _ _ => rfl)) (pe_callB call_len_seq (by rfl) W.n_len (by decide +kernel) (pa_cons (pe_ix ix_list (pv 0) pe_int (fun _ _ => rfl)) pa_nil)) (nomark _))))) (pss_cons
       (ps_set (i := 2) sc_law_draw.nd rfl (Or.inl rfl) (pe_ix ix_list (pe_ix ix_list (pv 0) pe_int (fun _ _ => rfl)) (pe_ix ix_list (pv 0) pe_int (fun _ _ => rfl)) (fun _ _ => rfl)))
       (pss_cons
       (ps_asg (pe_op op_add (pe_ix ix_list (pv 0) pe_int (fun _ _ => rfl)) pe_int) (pg_sub (pv 0) pe_int set_list))
       (pss_cons
       (ps_asg (pv 2) (pg_sub (pv 0) pe_int set_list))
       (pss_one
       (ps_if (pt_cmpR op_lt (pv 2) pe_int (nomark _)) (pss_one
       (ps_asg (pe_call (ok_law_spread W) (hr.mono (by decide)) (by rfl) W.f_law_spread.g W.f_law_spread.F.kp W.f_law_spread.b .nil pass0 (pa_cons (pv 2) pa_nil)) (pg_sub (pv 0) pe_int set_list))) pss_nil))))) pss_nil)
       (pss_cons
       (ps_asg (pe_op op_add (pe_ix ix_list (pv 0) pe_int (fun _ _ => rfl)) pe_int) (pg_sub (pv 0) pe_int set_list))
       (pss_cons
       (ps_if (pt_cmpR op_le (pe_ix ix_list (pv 0) pe_int (fun _ _ => rfl)) pe_int (nomark _)) (pss_cons
       (ps_set (i := 3) sc_law_draw.nd rfl (Or.inl rfl) (pe_op op_mod (pe_callTy call_int1 (by rfl) W.n_int (by decide +kernel) (pa_cons (pe_op op_add (pe_op op_add (pe_op op_mul (pe_ix ix_list (pv 0) pe_int (fun _ _ => rfl)) pe_int) (pe_op op_mul (pe_ix ix_list (pv 0) pe_int (fun _ _ => rfl)) pe_int)) pe_int) pa_nil)) pe_int))
       (pss_cons
       (ps_set (i := 3) sc_law_draw.nd rfl (Or.inl rfl) (pe_op op_mod (pe_callTy call_int1 (by rfl) W.n_int (by decide +kernel) (pa_cons (pe_op op_add (pe_op op_mul (pv 3) pe_int) (pe_ix ix_list (pv 0) pe_int (fun _ _ => rfl))) pa_nil)) pe_int))
       (pss_one
       (ps_ret (pe_op op_mod (pe_op op_fdiv (pv 3) pe_int) (pv 1)))))) pss_nil)
       (pss_cons
       (ps_set (i := 4) sc_law_draw.nd rfl (Or.inl rfl) (pe_op op_mod (pe_callTy call_int1 (by rfl) W.n_int (by decide +kernel) (pa_cons (pe_ix ix_list (pv 0) pe_int (fun _ _ => rfl)) pa_nil)) (pv 1)))
       (pss_cons
       (ps_asg (pe_op op_fdiv (pe_ix ix_list (pv 0) pe_int (fun _ _ => rfl)) (pv 1)) (pg_sub (pv 0) pe_int set_list))
       (pss_one
       (ps_ret (pv 4))))))))), ?_⟩
    refine ⟨_, rfl, _, _, _, .int c0, rfl, rfl, SqL.of HP0, rfl, _, _, rfl, rfl, _, rfl, ite2 (fun hA => ?_) fun hA => iteF ?_⟩
    · refine ⟨_, rfl, _, _, _, .int (i1 : Int), rfl, rfl, SqL.of HP0, rfl, _, rfl, _, _, _, .ref q', rfl, rfl, SqL.of HP0, rfl, _, _, rfl, .inl (SqL.of HQ0), _, _, rfl, rfl, _, rfl, ite2 (fun hB => ?_) fun hB => ?_⟩
      · have hi : i1 < ns.length := by
          have := of_decide_eq_true hB
          rw [List.length_map] at this
          omega
        refine ⟨_, rfl, _, _, _, .ref q', rfl, rfl, SqL.of HP0, rfl, _, rfl, _, _, _, .int (i1 : Int), rfl, rfl, SqL.of HP0, rfl, _, _, _, .int (ns.getD i1 0), rfl, rfl, SqL.of HQ0, atI_nat (at_getD hi), ?_⟩
        refine ⟨_, rfl, _, _, _, .int (i1 : Int), rfl, rfl, SqL.of HP0, rfl, _, _, rfl, rfl, _, rfl, _, _, _, _, rfl, rfl, HP0, rfl, ?_⟩
        have HPa : upd H p (.lst [.ref q', .int ((i1 : Int) + 1), .int c0, .int k1, .int s1]) p = some (.lst [.ref q', .int ((i1 : Int) + 1), .int c0, .int k1, .int s1]) := upd_same
        refine ⟨_, rfl, _, rfl, _, _, _, _, rfl, rfl, HPa, rfl, ?_⟩
        have HPb : ∀ c1 : Int, upd (upd H p (.lst [.ref q', .int ((i1 : Int) + 1), .int c0, .int k1, .int s1])) p (.lst [.ref q', .int ((i1 : Int) + 1), .int c1, .int k1, .int s1]) p = some (.lst [.ref q', .int ((i1 + 1 : Nat) : Int), .int c1, .int k1, .int s1]) := fun c1 => upd_same
        have HQb : ∀ c1 : Int, upd (upd H p (.lst [.ref q', .int ((i1 : Int) + 1), .int c0, .int k1, .int s1])) p (.lst [.ref q', .int ((i1 : Int) + 1), .int c1, .int k1, .int s1]) q' = some (.lst (ns.map V.int)) := fun c1 => by
          rw [upd_ne hpq.symm, upd_ne hpq.symm]
          exact HQ0
        have HBb : ∀ c1 : Int, But p H (upd (upd H p (.lst [.ref q', .int ((i1 : Int) + 1), .int c0, .int k1, .int s1])) p (.lst [.ref q', .int ((i1 : Int) + 1), .int c1, .int k1, .int s1])) := fun c1 => But.upd (But.upd But.refl)
        refine ⟨_, rfl, _, _, rfl, rfl, _, rfl, ite2 (fun hC => ?_) fun hC => ?_⟩
        · refine ⟨_, rfl, _, rfl, fun c1 => ?_⟩
          have HPc := HPb (ns.getD i1 0)
          refine ⟨_, rfl, _, _, _, _, rfl, rfl, HPc, rfl, ?_⟩
          have HB := But.upd (HBb (ns.getD i1 0)) (o := .lst [.ref q', .int ((i1 + 1 : Nat) : Int), .int c1, .int k1, .int s1])
          have HP := upd_same (H := upd (upd H p (.lst [.ref q', .int ((i1 : Int) + 1), .int c0, .int k1, .int s1])) p (.lst [.ref q', .int ((i1 : Int) + 1), .int (ns.getD i1 0), .int k1, .int s1])) (a := p) (o := .lst [.ref q', .int ((i1 + 1 : Nat) : Int), .int c1, .int k1, .int s1])
          have HQ : upd (upd (upd H p (.lst [.ref q', .int ((i1 : Int) + 1), .int c0, .int k1, .int s1])) p (.lst [.ref q', .int ((i1 : Int) + 1), .int (ns.getD i1 0), .int k1, .int s1])) p (.lst [.ref q', .int ((i1 + 1 : Nat) : Int), .int c1, .int k1, .int s1]) q' = some (.lst (ns.map V.int)) := by
            rw [upd_ne hpq.symm]
            exact HQb _
          revert HB HP HQ
          show _ → _ → _ → tSeq _ _ _ _ (upd (upd (upd H p (.lst [.ref q', .int ((i1 : Int) + 1), .int c0, .int k1, .int s1])) p (.lst [.ref q', .int ((i1 : Int) + 1), .int (ns.getD i1 0), .int k1, .int s1])) p (.lst [.ref q', .int ((i1 + 1 : Nat) : Int), .int c1, .int k1, .int s1]))
          generalize upd (upd (upd H p (.lst [.ref q', .int ((i1 : Int) + 1), .int c0, .int k1, .int s1])) p (.lst [.ref q', .int ((i1 : Int) + 1), .int (ns.getD i1 0), .int k1, .int s1])) p (.lst [.ref q', .int ((i1 + 1 : Nat) : Int), .int c1, .int k1, .int s1]) = H1
          intro HB HP HQ
          generalize i1 + 1 = i1 at HP
          refine ⟨_, rfl, _, _, _, .int k1, rfl, rfl, SqL.of HP, rfl, _, _, rfl, rfl, _, rfl, _, _, _, _, rfl, rfl, HP, rfl, ?_⟩
          have HP2 : upd H1 p (.lst [.ref q', .int i1, .int c1, .int (k1 + 1), .int s1]) p = some (.lst [.ref q', .int i1, .int c1, .int (k1 + 1), .int s1]) := upd_same
          have HQ2 : upd H1 p (.lst [.ref q', .int i1, .int c1, .int (k1 + 1), .int s1]) q' = some (.lst (ns.map V.int)) := by rw [upd_ne hpq.symm]; exact HQ
          have HB2 : But p H (upd H1 p (.lst [.ref q', .int i1, .int c1, .int (k1 + 1), .int s1])) := But.upd HB
          refine ⟨_, rfl, _, _, _, .int c1, rfl, rfl, SqL.of HP2, rfl, _, _, rfl, rfl, _, rfl, ite2 (fun hc => ?_) fun hc => ?_⟩
          · refine ⟨_, rfl, _, _, _, .int s1, rfl, rfl, SqL.of HP2, rfl, _, _, rfl, rfl, .inr ⟨by decide, by decide⟩, _, rfl, _, _, _, .int (k1 + 1), rfl, rfl, SqL.of HP2, rfl, _, _, rfl, rfl, .inr ⟨by decide, by decide⟩, _, _, rfl, rfl, _, _, rfl, rfl, .inl ⟨_, rfl, _, _, rfl, rfl, (by show (0 : Int) < 2147483647; decide), ?_⟩⟩
            refine ⟨_, rfl, _, _, rfl, rfl, .inr ⟨by decide, by decide⟩, _, rfl, _, _, _, .int (k1 + 1), rfl, rfl, SqL.of HP2, rfl, _, _, rfl, rfl, .inl ⟨_, rfl, _, _, rfl, rfl, (by show (0 : Int) < 2147483629; decide), ?_⟩⟩
            refine ⟨_, rfl, _, _, rfl, rfl, ⟨by decide, by decide⟩, _, rfl, _, _, rfl, rfl, hm, ?_⟩
            exact q _ _ HB2 ⟨_, _, _, _, HP2, HQ2, hpq⟩ (Int.emod_nonneg _ (by omega)) (Int.emod_lt_of_pos _ hm)
          · refine ⟨_, rfl, _, _, _, .int c1, rfl, rfl, SqL.of HP2, rfl, .inl ⟨_, rfl, _, rfl, _, _, rfl, rfl, hm, ?_⟩⟩
            refine ⟨_, rfl, _, _, _, .int c1, rfl, rfl, SqL.of HP2, rfl, _, rfl, _, _, rfl, rfl, ⟨hm, hm2⟩, _, rfl, _, _, _, _, rfl, rfl, HP2, rfl, ?_⟩
            refine ⟨_, rfl, ?_⟩
            exact q _ _ (But.upd HB2) ⟨_, _, _, _, upd_same, by rw [upd_ne hpq.symm]; exact HQ2, hpq⟩ (Int.emod_nonneg _ (by omega)) (Int.emod_lt_of_pos _ hm)
        · have HB := HBb (ns.getD i1 0)
          have HP := HPb (ns.getD i1 0)
          have HQ := HQb (ns.getD i1 0)
          revert HB HP HQ
          show _ → _ → _ → tSeq _ _ _ _ (upd (upd H p (.lst [.ref q', .int ((i1 : Int) + 1), .int c0, .int k1, .int s1])) p (.lst [.ref q', .int ((i1 : Int) + 1), .int (ns.getD i1 0), .int k1, .int s1]))
          generalize upd (upd H p (.lst [.ref q', .int ((i1 : Int) + 1), .int c0, .int k1, .int s1])) p (.lst [.ref q', .int ((i1 : Int) + 1), .int (ns.getD i1 0), .int k1, .int s1]) = H1
          generalize ns.getD i1 0 = c1
          intro HB HP HQ
          generalize i1 + 1 = i1 at HP
          refine ⟨_, rfl, _, _, _, .int k1, rfl, rfl, SqL.of HP, rfl, _, _, rfl, rfl, _, rfl, _, _, _, _, rfl, rfl, HP, rfl, ?_⟩
          have HP2 : upd H1 p (.lst [.ref q', .int i1, .int c1, .int (k1 + 1), .int s1]) p = some (.lst [.ref q', .int i1, .int c1, .int (k1 + 1), .int s1]) := upd_same
          have HQ2 : upd H1 p (.lst [.ref q', .int i1, .int c1, .int (k1 + 1), .int s1]) q' = some (.lst (ns.map V.int)) := by rw [upd_ne hpq.symm]; exact HQ
          have HB2 : But p H (upd H1 p (.lst [.ref q', .int i1, .int c1, .int (k1 + 1), .int s1])) := But.upd HB
          refine ⟨_, rfl, _, _, _, .int c1, rfl, rfl, SqL.of HP2, rfl, _, _, rfl, rfl, _, rfl, ite2 (fun hc => ?_) fun hc => ?_⟩
          · refine ⟨_, rfl, _, _, _, .int s1, rfl, rfl, SqL.of HP2, rfl, _, _, rfl, rfl, .inr ⟨by decide, by decide⟩, _, rfl, _, _, _, .int (k1 + 1), rfl, rfl, SqL.of HP2, rfl, _, _, rfl, rfl, .inr ⟨by decide, by decide⟩, _, _, rfl, rfl, _, _, rfl, rfl, .inl ⟨_, rfl, _, _, rfl, rfl, (by show (0 : Int) < 2147483647; decide), ?_⟩⟩
            refine ⟨_, rfl, _, _, rfl, rfl, .inr ⟨by decide, by decide⟩, _, rfl, _, _, _, .int (k1 + 1), rfl, rfl, SqL.of HP2, rfl, _, _, rfl, rfl, .inl ⟨_, rfl, _, _, rfl, rfl, (by show (0 : Int) < 2147483629; decide), ?_⟩⟩
            refine ⟨_, rfl, _, _, rfl, rfl, ⟨by decide, by decide⟩, _, rfl, _, _, rfl, rfl, hm, ?_⟩
            exact q _ _ HB2 ⟨_, _, _, _, HP2, HQ2, hpq⟩ (Int.emod_nonneg _ (by omega)) (Int.emod_lt_of_pos _ hm)
          · refine ⟨_, rfl, _, _, _, .int c1, rfl, rfl, SqL.of HP2, rfl, .inl ⟨_, rfl, _, rfl, _, _, rfl, rfl, hm, ?_⟩⟩
            refine ⟨_, rfl, _, _, _, .int c1, rfl, rfl, SqL.of HP2, rfl, _, rfl, _, _, rfl, rfl, ⟨hm, hm2⟩, _, rfl, _, _, _, _, rfl, rfl, HP2, rfl, ?_⟩
            refine ⟨_, rfl, ?_⟩
            exact q _ _ (But.upd HB2) ⟨_, _, _, _, upd_same, by rw [upd_ne hpq.symm]; exact HQ2, hpq⟩ (Int.emod_nonneg _ (by omega)) (Int.emod_lt_of_pos _ hm)
      · have HB : But p H H := But.refl
        have HP := HP0
        have HQ := HQ0
        refine ⟨_, rfl, _, _, _, .int k1, rfl, rfl, SqL.of HP, rfl, _, _, rfl, rfl, _, rfl, _, _, _, _, rfl, rfl, HP, rfl, ?_⟩
        have HP2 : upd H p (.lst [.ref q', .int i1, .int c0, .int (k1 + 1), .int s1]) p = some (.lst [.ref q', .int i1, .int c0, .int (k1 + 1), .int s1]) := upd_same
        have HQ2 : upd H p (.lst [.ref q', .int i1, .int c0, .int (k1 + 1), .int s1]) q' = some (.lst (ns.map V.int)) := by rw [upd_ne hpq.symm]; exact HQ
        have HB2 : But p H (upd H p (.lst [.ref q', .int i1, .int c0, .int (k1 + 1), .int s1])) := But.upd HB
        refine ⟨_, rfl, _, _, _, .int c0, rfl, rfl, SqL.of HP2, rfl, _, _, rfl, rfl, _, rfl, ite2 (fun hc => ?_) fun hc => ?_⟩
        · refine ⟨_, rfl, _, _, _, .int s1, rfl, rfl, SqL.of HP2, rfl, _, _, rfl, rfl, .inr ⟨by decide, by decide⟩, _, rfl, _, _, _, .int (k1 + 1), rfl, rfl, SqL.of HP2, rfl, _, _, rfl, rfl, .inr ⟨by decide, by decide⟩, _, _, rfl, rfl, _, _, rfl, rfl, .inl ⟨_, rfl, _, _, rfl, rfl, (by show (0 : Int) < 2147483647; decide), ?_⟩⟩
          refine ⟨_, rfl, _, _, rfl, rfl, .inr ⟨by decide, by decide⟩, _, rfl, _, _, _, .int (k1 + 1), rfl, rfl, SqL.of HP2, rfl, _, _, rfl, rfl, .inl ⟨_, rfl, _, _, rfl, rfl, (by show (0 : Int) < 2147483629; decide), ?_⟩⟩
          refine ⟨_, rfl, _, _, rfl, rfl, ⟨by decide, by decide⟩, _, rfl, _, _, rfl, rfl, hm, ?_⟩
          exact q _ _ HB2 ⟨_, _, _, _, HP2, HQ2, hpq⟩ (Int.emod_nonneg _ (by omega)) (Int.emod_lt_of_pos _ hm)
        · refine ⟨_, rfl, _, _, _, .int c0, rfl, rfl, SqL.of HP2, rfl, .inl ⟨_, rfl, _, rfl, _, _, rfl, rfl, hm, ?_⟩⟩
          refine ⟨_, rfl, _, _, _, .int c0, rfl, rfl, SqL.of HP2, rfl, _, rfl, _, _, rfl, rfl, ⟨hm, hm2⟩, _, rfl, _, _, _, _, rfl, rfl, HP2, rfl, ?_⟩
          refine ⟨_, rfl, ?_⟩
          exact q _ _ (But.upd HB2) ⟨_, _, _, _, upd_same, by rw [upd_ne hpq.symm]; exact HQ2, hpq⟩ (Int.emod_nonneg _ (by omega)) (Int.emod_lt_of_pos _ hm)
    · have HB : But p H H := But.refl
      have HP := HP0
      have HQ := HQ0
      refine ⟨_, rfl, _, _, _, .int k1, rfl, rfl, SqL.of HP, rfl, _, _, rfl, rfl, _, rfl, _, _, _, _, rfl, rfl, HP, rfl, ?_⟩
      have HP2 : upd H p (.lst [.ref q', .int i1, .int c0, .int (k1 + 1), .int s1]) p = some (.lst [.ref q', .int i1, .int c0, .int (k1 + 1), .int s1]) := upd_same
      have HQ2 : upd H p (.lst [.ref q', .int i1, .int c0, .int (k1 + 1), .int s1]) q' = some (.lst (ns.map V.int)) := by rw [upd_ne hpq.symm]; exact HQ
      have HB2 : But p H (upd H p (.lst [.ref q', .int i1, .int c0, .int (k1 + 1), .int s1])) := But.upd HB
      refine ⟨_, rfl, _, _, _, .int c0, rfl, rfl, SqL.of HP2, rfl, _, _, rfl, rfl, _, rfl, ite2 (fun hc => ?_) fun hc => ?_⟩
      · refine ⟨_, rfl, _, _, _, .int s1, rfl, rfl, SqL.of HP2, rfl, _, _, rfl, rfl, .inr ⟨by decide, by decide⟩, _, rfl, _, _, _, .int (k1 + 1), rfl, rfl, SqL.of HP2, rfl, _, _, rfl, rfl, .inr ⟨by decide, by decide⟩, _, _, rfl, rfl, _, _, rfl, rfl, .inl ⟨_, rfl, _, _, rfl, rfl, (by show (0 : Int) < 2147483647; decide), ?_⟩⟩
        refine ⟨_, rfl, _, _, rfl, rfl, .inr ⟨by decide, by decide⟩, _, rfl, _, _, _, .int (k1 + 1), rfl, rfl, SqL.of HP2, rfl, _, _, rfl, rfl, .inl ⟨_, rfl, _, _, rfl, rfl, (by show (0 : Int) < 2147483629; decide), ?_⟩⟩
        refine ⟨_, rfl, _, _, rfl, rfl, ⟨by decide, by decide⟩, _, rfl, _, _, rfl, rfl, hm, ?_⟩
        exact q _ _ HB2 ⟨_, _, _, _, HP2, HQ2, hpq⟩ (Int.emod_nonneg _ (by omega)) (Int.emod_lt_of_pos _ hm)
      · refine ⟨_, rfl, _, _, _, .int c0, rfl, rfl, SqL.of HP2, rfl, .inl ⟨_, rfl, _, rfl, _, _, rfl, rfl, hm, ?_⟩⟩
        refine ⟨_, rfl, _, _, _, .int c0, rfl, rfl, SqL.of HP2, rfl, _, rfl, _, _, rfl, rfl, ⟨hm, hm2⟩, _, rfl, _, _, _, _, rfl, rfl, HP2, rfl, ?_⟩
        refine ⟨_, rfl, ?_⟩
        exact q _ _ (But.upd HB2) ⟨_, _, _, _, upd_same, by rw [upd_ne hpq.symm]; exact HQ2, hpq⟩ (Int.emod_nonneg _ (by omega)) (Int.emod_lt_of_pos _ hm)
end
end KW
end

section
set_option Elab.async false
set_option linter.all false
set_option maxRecDepth 100000
set_option maxHeartbeats 4000000
/-! the law's own plan. -/
namespace KW
open PySem PySem.Spec PyProof.Rows L2 KR
section
variable {P : Program} {w : World} {K : PySem.W.Frag} {mg : Str → Option Value} {base : Heap}
theorem pool_ints {p q0 u : Addr} {ns0 ns : List Int} {H : Hp} (h : OPool p q0 ns0 H) (hu : H u = some (.lst (ns.map V.int))) : u ≠ p := by
  obtain ⟨i, c, k, s, h1, _⟩ := h
  refine ne_of hu h1 fun z => ?_
  injection z with z
  cases ns with
  | nil => cases z
  | cons n r =>
    rw [List.map_cons] at z
    injection z with z _
    cases z
theorem pool_tup {p q0 u : Addr} {ns0 : List Int} {xs : List V} {H : Hp} (h : OPool p q0 ns0 H) (hu : H u = some (.tup xs)) : u ≠ p := by
  obtain ⟨i, c, k, s, h1, _⟩ := h
  exact ne_of hu h1 (by intro z; cases z)
theorem pool_refs {p q0 u : Addr} {ns0 : List Int} {xs : List V} {H : Hp} (h : OPool p q0 ns0 H) (hu : H u = some (.lst xs)) (hx : xs.length ≠ 5) : u ≠ p := by
  obtain ⟨i, c, k, s, h1, _⟩ := h
  refine ne_of hu h1 fun z => ?_
  injection z with z
  exact hx (by rw [z]; rfl)
theorem OPl.but {s : SecD} {y : V} {p q0 : Addr} {ns0 : List Int} {H H' : Hp} (hp : OPool p q0 ns0 H) (b : But p H H') (h : OPl s y H) : OPl s y H' := by
  obtain ⟨r, t, d, e, h1, h2, h3⟩ := h
  refine ⟨r, t, d, e, b _ _ (pool_tup hp h1) h1, b _ _ (pool_tup hp h2) h2, ?_⟩
  cases hd : s.data with
  | none =>
    rw [hd] at h3
    exact h3
  | some l =>
    rw [hd] at h3
    obtain ⟨u, e, hu⟩ := h3
    exact ⟨u, e, b _ _ (pool_ints hp hu) hu⟩
/-- a list of fewer than eleven references is no list of sixteen ints -/
theorem not_data {s : SecD} (hs : SecOk s) {D u : Addr} {xs : List V} {l : List Int} {H : Hp} (hD : H D = some (.lst xs)) (hx : xs.length ≠ 16) (hl : s.data = some l) (hu : H u = some (.lst (l.map V.int))) : u ≠ D := by
  refine ne_of hu hD fun z => ?_
  injection z with z
  refine hx ?_
  rw [← z, List.length_map]
  exact (hs.2 l hl).1
theorem OPl.updl {s : SecD} {y : V} {D : Addr} {xs ys : List V} {H : Hp} (hs : SecOk s) (hD : H D = some (.lst xs)) (hx : xs.length ≠ 16) (h : OPl s y H) : OPl s y (upd H D (.lst ys)) := by
  obtain ⟨r, t, d, e, h1, h2, h3⟩ := h
  refine ⟨r, t, d, e, by rw [upd_ne (ne_of h1 hD (by intro z; cases z))]; exact h1, by rw [upd_ne (ne_of h2 hD (by intro z; cases z))]; exact h2, ?_⟩
  cases hd : s.data with
  | none =>
    rw [hd] at h3
    exact h3
  | some l =>
    rw [hd] at h3
    obtain ⟨u, e, hu⟩ := h3
    exact ⟨u, e, by rw [upd_ne (not_data hs hD hx hd hu)]; exact hu⟩
def sp_law_plan (K : PySem.W.Frag) : Sp := fun vs H Q _ => ∃ p q0 ns0, vs = [.ref p] ∧ OPool p q0 ns0 H ∧ ∀ H' r secs runs y z, But p H H' → OPool p q0 ns0 H' → H' r = some (.tup [y, z]) → ORow OPl secs y H' → ORow O2 runs z H' → secs.length ≤ 2 → (∀ s ∈ secs, SecOk s) → RunsOk runs → runs.length ≤ 2 → Q (.ref r) H'
/-- the four addresses -/
theorem adr_pick {H : Hp} {t1 t2 t3 t4 : Addr} {k : Int} (h1 : H t1 = some (.tup [.int 2, .int 1, .int (1 + k), .int 0])) (h2 : H t2 = some (.tup [.int 2, .int 1, .int 1, .int 0])) (h3 : H t3 = some (.tup [.int 2, .int 0, .int 1, .int 0])) (h4 : H t4 = some (.tup [.int 7, .int 1, .int 2, .int 0]))
    (hk : 0 ≤ k ∧ k ≤ 2) {n : Int} (hn : 0 ≤ n ∧ n < 6) : ∃ ta a b c, atI [V.ref t1, .ref t2, .ref t3, .ref t4] (if n - 2 > 0 then n - 2 else 0) = some (.ref ta) ∧ H ta = some (.tup (([a, b, c, 0] : List Int).map V.int)) ∧ (0 ≤ a ∧ a ≤ 255 ∧ 0 ≤ b ∧ b ≤ 255 ∧ 0 ≤ c ∧ c ≤ 255) := by
  have h : n = 0 ∨ n = 1 ∨ n = 2 ∨ n = 3 ∨ n = 4 ∨ n = 5 := by omega
  rcases h with rfl | rfl | rfl | rfl | rfl | rfl
  · exact ⟨t1, 2, 1, 1 + k, rfl, h1, by omega⟩
  · exact ⟨t1, 2, 1, 1 + k, rfl, h1, by omega⟩
  · exact ⟨t1, 2, 1, 1 + k, rfl, h1, by omega⟩
  · exact ⟨t2, 2, 1, 1, rfl, h2, by omega⟩
  · exact ⟨t3, 2, 0, 1, rfl, h3, by omega⟩
  · exact ⟨t4, 7, 1, 2, rfl, h4, by omega⟩
theorem dat_pick {H : Hp} {q1 q2 : Addr} {ns ms : List Int} (h1 : H q1 = some (.lst (ns.map V.int))) (h2 : H q2 = some (.lst (ms.map V.int))) (hn : ns.length = 16 ∧ ∀ v ∈ ns, 0 ≤ v ∧ v ≤ 255) (hm : ms.length = 16 ∧ ∀ v ∈ ms, 0 ≤ v ∧ v ≤ 255) {n : Int} (h : 0 ≤ n ∧ n < 5) :
    ∃ d data, atI [V.ref q1, .ref q2, .non] (n / 2) = some d ∧ ODatL data d H ∧ ∀ l, data = some l → l.length = 16 ∧ ∀ v ∈ l, 0 ≤ v ∧ v ≤ 255 := by
  have h' : n = 0 ∨ n = 1 ∨ n = 2 ∨ n = 3 ∨ n = 4 := by omega
  rcases h' with rfl | rfl | rfl | rfl | rfl
  · exact ⟨.ref q1, some ns, rfl, ⟨q1, rfl, h1⟩, fun l e => by cases e; exact hn⟩
  · exact ⟨.ref q1, some ns, rfl, ⟨q1, rfl, h1⟩, fun l e => by cases e; exact hn⟩
  · exact ⟨.ref q2, some ms, rfl, ⟨q2, rfl, h2⟩, fun l e => by cases e; exact hm⟩
  · exact ⟨.ref q2, some ms, rfl, ⟨q2, rfl, h2⟩, fun l e => by cases e; exact hm⟩
  · exact ⟨.non, none, rfl, rfl, fun l e => by cases e⟩
abbrev N_law_plan : List Str := ["_law_pool_here", "_law_sectors", "_law_k", "_law_address", "_law_data", "_law_runs", "_law_j"]
theorem sc_law_plan : FnScope N_law_plan ["_law_pool_here"] (defScope s_law_plan) := ⟨rfl, rfl, rfl, by decide +kernel, rfl, by decide +kernel, by decide +kernel⟩
theorem ok_law_plan (W : T K mg) : Ok P w K mg base (3) "_law_plan" ["_law_pool_here"] (sp_law_plan K) := by
  refine W.f_law_plan.F.ok sc_law_plan (fun vs H Q E h => ?_) (fun cdv A outer s H vs Q E hr h => ?_)
  · obtain ⟨p, q0, ns0, rfl, _⟩ := h
    rfl
  · obtain ⟨p, q0, ns0, rfl, hpl, q⟩ := h
    refine ⟨_, PSs.nox ((pss_cons
       (ps_set (i := 1) sc_law_plan.nd rfl (Or.inl rfl) (pe_lst pa_nil))
       (pss_cons
       (ps_for PassesOwn.never rfl (pi_range1 rfl W.n_range (pa_cons (pe_op op_add pe_int (pe_call (ok_law_draw W) (hr.mono (by decide)) (by rfl) W.f_law_draw.g W.f_law_draw.F.kp W.f_law_draw.b .nil pass0 (pa_cons (pv 0) (pa_cons pe_int pa_nil)))) pa_nil)) (pg_name (i := 2) sc_law_plan.nd rfl (Or.inl rfl)) (pss_cons
       (ps_set (i := 3) sc_law_plan.nd rfl (Or.inl rfl) (pe_ix ix_list (pe_lst (pa_cons (pe_tup (pa_cons pe_int (pa_cons pe_int (pa_cons (pe_op op_add pe_int (pv 2)) (pa_cons pe_int pa_nil))))) (pa_cons (pe_tup (pa_cons pe_int (pa_cons pe_int (pa_cons pe_int (pa_cons pe_int pa_nil))))) (pa_cons (pe_tup (pa_cons pe_int (pa_cons pe_int (pa_cons pe_int (pa_cons pe_int pa_nil))))) (pa_cons (pe_tup (pa_cons pe_int (pa_cons pe_int (pa_cons pe_int (pa_cons pe_int pa_nil))))) pa_nil))))) (pe_callB (call_max2 rfl) (by rfl) W.n_max (by decide +kernel) (pa_cons pe_int (pa_cons (pe_op op_sub (pe_call (ok_law_draw W) (hr.mono (by decide)) (by rfl) W.f_law_draw.g W.f_law_draw.F.kp W.f_law_draw.b .nil pass0 (pa_cons (pv 0) (pa_cons pe_int pa_nil))) pe_int) pa_nil))) (fun _ _ => rfl)))
       (pss_cons
       (ps_set (i := 4) sc_law_plan.nd rfl (Or.inl rfl) (pe_ix ix_list (pe_lst (pa_cons (pe_op op_rep (pe_lst (pa_cons (pe_call (ok_law_draw W) (hr.mono (by decide)) (by rfl) W.f_law_draw.g W.f_law_draw.F.kp W.f_law_draw.b .nil pass0 (pa_cons (pv 0) (pa_cons pe_int pa_nil))) pa_nil)) pe_int) (pa_cons (pe_lc (own := [("_law_j", 6)]) rfl sc_law_plan.nd (pi_range1 rfl W.n_range (pa_cons pe_int pa_nil)) (blkOk_by (own := [("_law_j", 6)]) (N := N_law_plan) (sc := defScope s_law_plan) (by decide +kernel)) (fun _ _ _ _ _ => (pg_name (i := 6) sc_law_plan.nd rfl (Or.inl rfl))) (fun _ _ _ _ _ => pts_nil) (fun _ _ _ _ _ => (pe_call (ok_law_draw W) (hr.mono (by decide)) (by rfl) W.f_law_draw.g W.f_law_draw.F.kp W.f_law_draw.b .nil pass0 (pa_cons (pv 0) (pa_cons pe_int pa_nil))))) (pa_cons pe_non pa_nil)))) (pe_op op_fdiv (pe_call (ok_law_draw W) (hr.mono (by decide)) (by rfl) W.f_law_draw.g W.f_law_draw.F.kp W.f_law_draw.b .nil pass0 (pa_cons (pv 0) (pa_cons pe_int pa_nil))) pe_int) (fun _ _ => rfl)))
       (pss_one
       (ps_expr (pe_bm PySem.F.plainAttrs_list PySem.F.slot_list_append PySem.F.type_list_append mt_append (pv 1) (pa_cons (pe_tup (pa_cons (pv 3) (pa_cons (pv 4) (pa_cons (pe_cmpR op_eq (pe_call (ok_law_draw W) (hr.mono (by decide)) (by rfl) W.f_law_draw.g W.f_law_draw.F.kp W.f_law_draw.b .nil pass0 (pa_cons (pv 0) (pa_cons pe_int pa_nil))) pe_int (nomark _)) (pa_cons (pe_and (pe_cmp (pc_notN (pv 4))) (pe_one (pe_cmpR op_eq (pe_call (ok_law_draw W) (hr.mono (by decide)) (by rfl) W.f_law_draw.g W.f_law_draw.F.kp W.f_law_draw.b .nil pass0 (pa_cons (pv 0) (pa_cons pe_int pa_nil))) pe_int (nomark _)))) pa_nil))))) pa_nil)))))))
       (pss_cons
       (ps_setLc (i := 5) (own := [("_law_k", 2)]) rfl sc_law_plan.nd rfl rfl (sw_true rfl rfl rfl (by decide +kernel)) (pi_range1 rfl W.n_range (pa_cons (pe_call (ok_law_draw W) (hr.mono (by decide)) (by rfl) W.f_law_draw.g W.f_law_draw.F.kp W.f_law_draw.b .nil pass0 (pa_cons (pv 0) (pa_cons pe_int pa_nil))) pa_nil)) (blkOk_by (own := [("_law_k", 2)]) (N := N_law_plan) (sc := defScope s_law_plan) (by decide +kernel)) (fun _ _ _ _ _ => (pg_name (i := 2) sc_law_plan.nd rfl (Or.inl rfl))) (fun _ _ _ _ _ => pts_nil) (fun _ _ _ _ _ => (pe_tup (pa_cons (pe_call (ok_law_draw W) (hr.mono (by decide)) (by rfl) W.f_law_draw.g W.f_law_draw.F.kp W.f_law_draw.b .nil pass0 (pa_cons (pv 0) (pa_cons pe_int pa_nil))) (pa_cons (pe_call (ok_law_draw W) (hr.mono (by decide)) (by rfl) W.f_law_draw.g W.f_law_draw.F.kp W.f_law_draw.b .nil pass0 (pa_cons (pv 0) (pa_cons pe_int pa_nil))) pa_nil)))))
       (pss_one
       (ps_ret (pe_tup (pa_cons (pv 1) (pa_cons (pv 5) pa_nil))))))))), ?_⟩
    refine ⟨Nat.zero_le _, fun o no => ?_⟩
    have so := Same.new (o := .lst []) no
    have hop : o ≠ p := by
      obtain ⟨u, e⟩ := hpl.at_
      exact (ne_of_none e no).symm
    have hoq : o ≠ q0 := by
      obtain ⟨u, e⟩ := hpl.at2
      exact (ne_of_none e no).symm
    have butN : ∀ {X : Hp} {u : HO}, But p H X → But p H (upd X o u) := fun b c v n e => by
      rw [upd_ne (ne_of_none e no)]
      exact b c v n e
    refine ⟨_, rfl, p, q0, ns0, 2, rfl, hpl.mono so, by decide, by decide, fun H1 n1 b1 p1 n1a n1b => ⟨_, _, rfl, rfl, _, rfl, by omega, by omega, ?_⟩⟩
    have en : (1 + n1).toNat ≤ 2 := by omega
    refine for_range (n := _) (fun i σ H' => But p H H' ∧ OPool p q0 ns0 H' ∧ (∃ secs ys, H' o = some (.lst ys) ∧ secs.length = i ∧ Paired (fun s y => OPl s y H') secs ys ∧ ∀ s ∈ secs, SecOk s) ∧ ∃ u1 u2 u3 u4 u5, σ = [some (.ref p), some (.ref o), u1, u2, u3, u4, u5])
      ⟨(But.of so).trans b1, p1, ⟨[], [], b1 _ _ hop upd_same, rfl, .nil, fun s hs => by cases hs⟩, _, _, _, _, _, rfl⟩ (fun i σ H' hi pr => ?_) fun σ H' pr => ?_
    · obtain ⟨bb, pl, ⟨secs, ys, ho, hsl, hpr, hsok⟩, u1, u2, u3, u4, u5, rfl⟩ := pr
      have hi2 : i < 2 := by omega
      have hyl := Paired.length hpr
      -- address
      refine ⟨_, rfl, _, _, rfl, rfl, (by show 4 ≤ sizeLine; decide), fun t1 nt1 => ⟨(by show 4 ≤ sizeLine; decide), fun t2 nt2 => ⟨(by show 4 ≤ sizeLine; decide), fun t3 nt3 => ⟨(by show 4 ≤ sizeLine; decide), fun t4 nt4 => ⟨(by show 4 ≤ sizeLine; decide), fun la nla => ?_⟩⟩⟩⟩⟩
      have st1 := Same.new (o := .tup [.int 2, .int 1, .int (1 + (0 + (i : Int))), .int 0]) nt1
      have st2 := Same.new (o := .tup [.int 2, .int 1, .int 1, .int 0]) nt2
      have st3 := Same.new (o := .tup [.int 2, .int 0, .int 1, .int 0]) nt3
      have st4 := Same.new (o := .tup [.int 7, .int 1, .int 2, .int 0]) nt4
      have sla := Same.new (o := .lst [.ref t1, .ref t2, .ref t3, .ref t4]) nla
      have sA := (((st1.trans st2).trans st3).trans st4).trans sla
      have plA := pl.mono sA
      refine ⟨_, rfl, p, q0, ns0, 6, rfl, plA, by decide, by decide, fun H2 n2 b2 p2 n2a n2b => ⟨_, _, rfl, rfl, _, _, rfl, ?_⟩⟩
      have hla2 := b2 _ _ (pool_refs plA upd_same (by show ¬ (4 : Nat) = 5; decide)) upd_same
      obtain ⟨ta, a1, a2, a3, eat, hta, hbd⟩ := adr_pick (H := H2) (t1 := t1) (t2 := t2) (t3 := t3) (t4 := t4) (k := 0 + (i : Int))
        (b2 _ _ (pool_tup plA ((((st2.trans st3).trans st4).trans sla) _ _ upd_same)) ((((st2.trans st3).trans st4).trans sla) _ _ upd_same)) (b2 _ _ (pool_tup plA (((st3.trans st4).trans sla) _ _ upd_same)) (((st3.trans st4).trans sla) _ _ upd_same))
        (b2 _ _ (pool_tup plA ((st4.trans sla) _ _ upd_same)) ((st4.trans sla) _ _ upd_same)) (b2 _ _ (pool_tup plA (sla _ _ upd_same)) (sla _ _ upd_same)) (by omega) (n := n2) (by omega)
      refine ⟨_, _, _, .ref ta, rfl, rfl, SqL.of hla2, eat, ?_⟩
      have bA2 : But p H' H2 := (But.of sA).trans b2
      -- data
      refine ⟨_, rfl, p, q0, ns0, 256, rfl, p2, by decide, by decide, fun H3 v3 b3 p3 v3a v3b => ⟨(by show 1 ≤ sizeLine; decide), fun q1 nq1 => ⟨_, _, _, rfl, rfl, upd_same, by decide, by decide, (by show 1 * 16 ≤ sizeLine; decide), fun q2 nq2 => ?_⟩⟩⟩
      have sq1 := Same.new (o := .lst [.int v3]) nq1
      have sq2 := Same.new (o := .lst ((List.replicate (16 : Int).toNat [V.int v3]).flatten)) nq2
      have pq := p3.mono (sq1.trans sq2)
      have hq2 : upd (upd H3 q1 (.lst [.int v3])) q2 (.lst ((List.replicate (16 : Int).toNat [V.int v3]).flatten)) q2 = some (.lst ((List.replicate 16 v3).map V.int)) := upd_same
      have s312 := sq1.trans sq2
      refine ⟨16, rfl, by decide, by decide, fun D nD => ?_⟩
      obtain ⟨H4, eH4⟩ : ∃ H4, H4 = upd (upd H3 q1 (.lst [.int v3])) q2 (.lst ((List.replicate (16 : Int).toNat [V.int v3]).flatten)) := ⟨_, rfl⟩
      rw [← eH4] at pq hq2 s312
      have nD4 : H4 D = none := by rw [eH4]; exact nD
      have hpD : D ≠ p := by
        obtain ⟨u, e⟩ := pq.at_
        exact (ne_of_none e nD4).symm
      have hqD : D ≠ q0 := by
        obtain ⟨u, e⟩ := pq.at2
        exact (ne_of_none e nD4).symm
      refine lc_range (n := 16) (fun j H' => ∃ ns : List Int, H' D = some (.lst (ns.map V.int)) ∧ ns.length = j ∧ (∀ v ∈ ns, 0 ≤ v ∧ v ≤ 255) ∧ (∀ b o, b ≠ p → b ≠ D → H4 b = some o → H' b = some o) ∧ OPool p q0 ns0 H')
        ⟨[], upd_same, rfl, (by intro v hv; cases hv), (fun b o _ n e => by rw [upd_ne n, ← eH4]; exact e), (by rw [← eH4]; exact pq.mono (Same.new nD4))⟩ (fun j H5 hj pj => ?_) fun H5 pj => ?_
      · obtain ⟨ns, hD, hnl, hnb, hk, hp5⟩ := pj
        refine ⟨rfl, _, rfl, p, q0, ns0, 256, rfl, hp5, by decide, by decide, fun H6 v6 b6 p6 v6a v6b => ?_⟩
        have hD6 := b6 _ _ hpD hD
        refine ⟨ns.map V.int, hD6, (by rw [List.length_map, hnl]; show j < 16777216; omega), ns ++ [v6], by rw [upd_same, List.map_append]; rfl, by rw [List.length_append, hnl]; rfl, fun v hv => ?_, fun b o n1 n2 e => by rw [upd_ne n2]; exact b6 _ _ n1 (hk _ _ n1 n2 e), p6.upd hpD hqD⟩
        rcases List.mem_append.mp hv with hv | hv
        · exact hnb v hv
        · rw [List.mem_singleton] at hv
          omega
      obtain ⟨ns, hD, hnl, hnb, hk5, hp5⟩ := pj
      refine ⟨(by show 3 ≤ sizeLine; decide), fun ld nld => ?_⟩
      have sld := Same.new (o := .lst [.ref q2, .ref D, .non]) nld
      have pld := hp5.mono sld
      refine ⟨_, rfl, p, q0, ns0, 5, rfl, pld, by decide, by decide, fun H7 n7 b7 p7 n7a n7b => ⟨_, _, rfl, rfl, ⟨by decide, by decide⟩, ?_⟩⟩
      have hq2D : q2 ≠ D := ne_of_none hq2 nD4
      have hq2p : q2 ≠ p := pool_ints pq hq2
      have hq27 := b7 _ _ (pool_ints pld (sld _ _ (hk5 _ _ hq2p hq2D hq2))) (sld _ _ (hk5 _ _ hq2p hq2D hq2))
      have hD7 := b7 _ _ (pool_ints pld (sld _ _ hD)) (sld _ _ hD)
      have hld7 := b7 _ _ (pool_refs pld upd_same (by show ¬ (3 : Nat) = 5; decide)) upd_same
      obtain ⟨d, data, ead, hdat, hdok⟩ := dat_pick hq27 hD7 ⟨by rw [List.length_replicate], fun v hv => by have := List.eq_of_mem_replicate hv; omega⟩ ⟨hnl, hnb⟩ (n := n7) (by omega)
      refine ⟨_, _, _, d, rfl, rfl, SqL.of hld7, ead, ?_⟩
      -- all that stood ahead of this turn
      have b27 : But p H2 H7 := ((b3.step s312).trans fun b o n e => sld _ _ (hk5 _ _ n (ne_of_none e nD4) e)).trans b7
      have bT : But p H' H7 := bA2.trans b27
      have ho7 := bT _ _ hop ho
      have hta7 := b27 _ _ (pool_tup p2 hta) hta
      have hpr7 := Paired.mapP hpr fun s y z => OPl.but pl bT z
      have hsec : SecOk ⟨[a1, a2, a3, 0], data, false, false⟩ := ⟨⟨a1, a2, a3, rfl, hbd⟩, hdok⟩
      -- the row
      have fin : ∀ (H9 : Hp) (aw dw : Bool), But p H7 H9 → OPool p q0 ns0 H9 → ∀ t, H9 t = none → rAppend (.ref o) [.ref t] (upd H9 t (.tup [.ref ta, d, .bl aw, .bl dw])) fun _ H10 =>
          But p H H10 ∧ OPool p q0 ns0 H10 ∧ (∃ secs ys, H10 o = some (.lst ys) ∧ secs.length = i + 1 ∧ Paired (fun s y => OPl s y H10) secs ys ∧ ∀ s ∈ secs, SecOk s) ∧ ∃ w1 w2 w3 w4 w5, [some (V.ref p), some (.ref o), some (.int (0 + (i : Int))), some (.ref ta), some d, u4, u5] = [some (.ref p), some (.ref o), w1, w2, w3, w4, w5] := fun H9 aw dw b9 p9 t nt => by
        have st := Same.new (o := .tup [.ref ta, d, .bl aw, .bl dw]) nt
        have ho9 := st _ _ (b9 _ _ hop ho7)
        have hl16 : ys.length ≠ 16 := by omega
        have hto : t ≠ o := (ne_of_none (b9 _ _ hop ho7) nt).symm
        refine ⟨_, _, _, rfl, rfl, ho9, (by rw [← hyl, hsl]; show i < 16777216; omega), butN ((bb.trans bT).trans (b9.step st)), (p9.mono st).upd hop hoq, ⟨secs ++ [⟨[a1, a2, a3, 0], data, aw, dw⟩], _, upd_same, by rw [List.length_append, hsl]; rfl, ?_, ?_⟩, _, _, _, _, _, rfl⟩
        · have hpr9 := Paired.mapP hpr7 fun s y z => mono_OPl _ _ _ _ st (OPl.but p7 b9 z)
          have hnew : OPl ⟨[a1, a2, a3, 0], data, aw, dw⟩ (.ref t) (upd H9 t (.tup [.ref ta, d, .bl aw, .bl dw])) := by
            refine ⟨t, ta, d, rfl, upd_same, st _ _ (b9 _ _ (pool_tup p7 hta7) hta7), ?_⟩
            cases hdt : data with
            | none =>
              rw [hdt] at hdat
              exact hdat
            | some l =>
              rw [hdt] at hdat
              obtain ⟨u, e, hu⟩ := hdat
              exact ⟨u, e, st _ _ (b9 _ _ (pool_ints p7 hu) hu)⟩
          have go : ∀ {ss : List SecD} {zs : List V}, (∀ s ∈ ss, SecOk s) → Paired (fun s y => OPl s y (upd H9 t (.tup [.ref ta, d, .bl aw, .bl dw]))) ss zs → Paired (fun s y => OPl s y (upd (upd H9 t (.tup [.ref ta, d, .bl aw, .bl dw])) o (.lst (ys ++ [.ref t])))) ss zs := by
            intro ss zs hss hp
            induction hp with
            | nil => exact .nil
            | cons r _ ih => exact .cons (OPl.updl (hss _ (List.mem_cons_self ..)) ho9 hl16 r) (ih fun s hs => hss s (List.mem_cons_of_mem _ hs))
          refine go (fun s hs => ?_) (Paired.snoc hpr9 hnew)
          rcases List.mem_append.mp hs with hs | hs
          · exact hsok s hs
          · rw [List.mem_singleton] at hs
            subst hs
            exact hsec
        · intro s hs
          rcases List.mem_append.mp hs with hs | hs
          · exact hsok s hs
          · rw [List.mem_singleton] at hs
            subst hs
            exact hsec
      refine ⟨_, rfl, .inl ⟨rfl, _, SqL.of ho7⟩, _, rfl, _, rfl, _, rfl, p, q0, ns0, 8, rfl, p7, by decide, by decide, fun H8 n8 b8 p8 n8a n8b => ⟨rfl, ?_⟩⟩
      cases hdt : data with
      | none =>
        rw [hdt] at hdat
        obtain rfl : d = .non := hdat
        exact ⟨_, rfl, _, rfl, ifF (by decide) ⟨(by show 4 ≤ sizeLine; decide), fun t nt => fin H8 _ _ b8 p8 t nt⟩⟩
      | some l =>
        rw [hdt] at hdat
        obtain ⟨u, rfl, hu⟩ := hdat
        refine ⟨_, rfl, _, rfl, ifT rfl ⟨_, rfl, p, q0, ns0, 4, rfl, p8, by decide, by decide, fun H9 n9 b9 p9 n9a n9b => ⟨rfl, (by show 4 ≤ sizeLine; decide), fun t nt => fin H9 _ _ (b8.trans b9) p9 t nt⟩⟩⟩
    · obtain ⟨bb, pl, ⟨secs, ys, ho, hsl, hpr, hsok⟩, u1, u2, u3, u4, u5, rfl⟩ := pr
      refine ⟨_, rfl, p, q0, ns0, 3, rfl, pl, by decide, by decide, fun H2 n2 b2 p2 n2a n2b => ⟨_, rfl, by omega, by omega, fun D nD => ?_⟩⟩
      have hpD : D ≠ p := by
        obtain ⟨u, e⟩ := p2.at_
        exact (ne_of_none e nD).symm
      have hqD : D ≠ q0 := by
        obtain ⟨u, e⟩ := p2.at2
        exact (ne_of_none e nD).symm
      have en2 : n2.toNat ≤ 2 := by omega
      refine lc_range (n := _) (fun j H' => ∃ (runs : List (Int × Int)) (zs : List V), H' D = some (.lst zs) ∧ runs.length = j ∧ Paired (fun r z => O2 r z H') runs zs ∧ (∀ r ∈ runs, 0 ≤ r.1 ∧ r.1 ≤ 10000 ∧ 0 ≤ r.2 ∧ r.2 ≤ 10000) ∧ (∀ b o, b ≠ p → b ≠ D → H2 b = some o → H' b = some o) ∧ OPool p q0 ns0 H')
        ⟨[], [], upd_same, rfl, .nil, (by intro v hv; cases hv), (fun b o _ n e => by rw [upd_ne n]; exact e), p2.mono (Same.new nD)⟩ (fun j H5 hj pj => ?_) fun H5 pj => ?_
      · obtain ⟨runs, zs, hD, hrl, hrp, hrb, hk, hp5⟩ := pj
        have hzl := Paired.length hrp
        refine ⟨rfl, _, rfl, p, q0, ns0, 2000, rfl, hp5, by decide, by decide, fun H6 v6 b6 p6 v6a v6b => ⟨_, rfl, p, q0, ns0, 60, rfl, p6, by decide, by decide, fun H7 v7 b7 p7 v7a v7b => ⟨(by show 2 ≤ sizeLine; decide), fun t nt => ?_⟩⟩⟩
        have st := Same.new (o := .tup [.int v6, .int v7]) nt
        have b57 : But p H5 H7 := b6.trans b7
        have hD7 := st _ _ (b57 _ _ hpD hD)
        refine ⟨zs, hD7, (by rw [← hzl, hrl]; show j < 16777216; omega), runs ++ [(v6, v7)], zs ++ [.ref t], upd_same, by rw [List.length_append, hrl]; rfl, ?_, fun r hr => ?_, fun b o n1 n2 e => by rw [upd_ne n2]; exact st _ _ (b57 _ _ n1 (hk _ _ n1 n2 e)), (p7.mono st).upd hpD hqD⟩
        · have hpr7 := Paired.mapP hrp fun r z (h : O2 r z H5) => (show O2 r z (upd (upd H7 t (.tup [.int v6, .int v7])) D (.lst (zs ++ [.ref t]))) from by
            obtain ⟨a, e, ha⟩ := h
            have ha7 := st _ _ (b57 _ _ (pool_tup hp5 ha) ha)
            exact ⟨a, e, by rw [upd_ne (ne_of ha7 hD7 (by intro z; cases z))]; exact ha7⟩)
          refine Paired.snoc hpr7 ⟨t, rfl, ?_⟩
          rw [upd_ne (ne_of upd_same hD7 (by intro z; cases z)), upd_same]
        · rcases List.mem_append.mp hr with hr | hr
          · exact hrb r hr
          · rw [List.mem_singleton] at hr
            subst hr
            refine ⟨v6a, ?_, v7a, ?_⟩
            · show v6 ≤ 10000
              omega
            · show v7 ≤ 10000
              omega
      · obtain ⟨runs, zs, hD, hrl, hrp, hrb, hk, hp5⟩ := pj
        refine ⟨_, rfl, _, rfl, (by show 2 ≤ sizeLine; decide), fun r nr => ?_⟩
        have sr := Same.new (o := .tup [.ref o, .ref D]) nr
        have b25 : But p H2 H5 := fun b o n e => hk _ _ n (ne_of_none e nD) e
        have bT : But p H' H5 := b2.trans b25
        have ho5 := bT _ _ hop ho
        refine q _ r secs runs _ _ ((bb.trans bT).step sr) (hp5.mono sr) upd_same ⟨o, ys, rfl, sr _ _ ho5, Paired.mapP hpr fun s y z => mono_OPl _ _ _ _ sr (OPl.but pl bT z)⟩ ⟨D, zs, rfl, sr _ _ hD, Paired.mapP hrp fun r z h => mono_O2 _ _ _ _ sr h⟩ (by omega) hsok ⟨by omega, hrb⟩ (by omega)
end
end KW
end

section
set_option Elab.async false
set_option linter.all false
set_option maxRecDepth 100000
set_option maxHeartbeats 4000000
/-! the law's own comparison. -/
namespace KW
open PySem PySem.Spec PyProof.Rows L2 KR
/-- two values of the same make, of depth below n -/
def SPD : Nat → V → V → Hp → Prop
  | 0, _, _, _ => False
  | n + 1, x, y, H => (∃ i, x = .int i ∧ y = .int i) ∨ (∃ s, x = .str s ∧ y = .str s) ∨
    (∃ a b xs ys, x = .ref a ∧ y = .ref b ∧ H a = some (.lst xs) ∧ H b = some (.lst ys) ∧ xs.length ≤ 10000000 ∧ Paired (fun u v => SPD n u v H) xs ys) ∨
    (∃ a b xs ys, x = .ref a ∧ y = .ref b ∧ H a = some (.tup xs) ∧ H b = some (.tup ys) ∧ xs.length ≤ 10000000 ∧ Paired (fun u v => SPD n u v H) xs ys)
section
variable {P : Program} {w : World} {K : PySem.W.Frag} {mg : Str → Option Value} {base : Heap}
def sp_law_same (n : Nat) : Sp := fun vs H Q _ => ∃ x y, vs = [x, y] ∧ SPD n x y H ∧ Q (.bl true) H
abbrev N_law_same : List Str := ["_law_actual", "_law_due", "_law_k"]
theorem sc_law_same : FnScope N_law_same ["_law_actual", "_law_due"] (defScope s_law_same) := ⟨rfl, rfl, rfl, by decide +kernel, rfl, by decide +kernel, by decide +kernel⟩
theorem ok_law_same (W : T K mg) : ∀ n, Ok P w K mg base n "_law_same" ["_law_actual", "_law_due"] (sp_law_same n)
  | 0 => ⟨fun vs H Q E h => by obtain ⟨_, _, _, z, _⟩ := h; exact z.elim, fun A outer s H args us vs Q E _ _ _ _ h => by obtain ⟨_, _, _, z, _⟩ := h; exact z.elim⟩
  | n + 1 => by
    have ih := ok_law_same W n
    refine W.f_law_same.F.ok sc_law_same (fun vs H Q E h => ?_) (fun cdv A outer s H vs Q E hr h => ?_)
    · obtain ⟨x, y, rfl, _⟩ := h
      rfl
    · obtain ⟨x, y, rfl, h, q⟩ := h
      refine ⟨_, PSs.nox ((pss_cons
       (ps_if (PW.pt (pw_or (pt_val (pe_callB call_isi (by rfl) W.n_isinstance (by decide +kernel) (pa_cons (pv 1) (pa_cons (pgty (T := "tuple") W.n_tuple (by decide +kernel)) pa_nil)))) (pw_or1 (pt_val (pe_callB call_isi (by rfl) W.n_isinstance (by decide +kernel) (pa_cons (pv 1) (pa_cons (pgty (T := "list") W.n_list (by decide +kernel)) pa_nil))))))) (pss_cons
       (ps_if (PW.pt (pw_or (pt_cmpR op_ne (pe_callB call_isi (by rfl) W.n_isinstance (by decide +kernel) (pa_cons (pv 1) (pa_cons (pgty (T := "tuple") W.n_tuple (by decide +kernel)) pa_nil))) (pe_callB call_isi (by rfl) W.n_isinstance (by decide +kernel) (pa_cons (pv 0) (pa_cons (pgty (T := "tuple") W.n_tuple (by decide +kernel)) pa_nil))) (nomark _)) (pw_or1 (pt_cmpR op_ne (pe_callB call_isi (by rfl) W.n_isinstance (by decide +kernel) (pa_cons (pv 1) (pa_cons (pgty (T := "list") W.n_list (by decide +kernel)) pa_nil))) (pe_callB call_isi (by rfl) W.n_isinstance (by decide +kernel) (pa_cons (pv 0) (pa_cons (pgty (T := "list") W.n_list (by decide +kernel)) pa_nil))) (nomark _))))) (pss_one
       (ps_ret pe_bl)) pss_nil)
       (pss_cons
       (ps_if (pt_cmpR op_ne (pe_callB call_len_seq (by rfl) W.n_len (by decide +kernel) (pa_cons (pv 0) pa_nil)) (pe_callB call_len_seq (by rfl) W.n_len (by decide +kernel) (pa_cons (pv 1) pa_nil)) (nomark _)) (pss_one
       (ps_ret pe_bl)) pss_nil)
       (pss_cons
       (ps_for PassesOwn.never rfl (pi_range1 rfl W.n_range (pa_cons (pe_callB call_len_seq (by rfl) W.n_len (by decide +kernel) (pa_cons (pv 1) pa_nil)) pa_nil)) (pg_name (i := 2) sc_law_same.nd rfl (Or.inl rfl)) (pss_one
       (ps_if (pt_not (pt_val (pe_call ih hr (by rfl) W.f_law_same.g W.f_law_same.F.kp W.f_law_same.b .nil pass0 (pa_cons (pe_ix ix_seq (pv 0) (pv 2) (fun _ _ => rfl)) (pa_cons (pe_ix ix_seq (pv 1) (pv 2) (fun _ _ => rfl)) pa_nil))))) (pss_one
       (ps_ret pe_bl)) pss_nil)))
       (pss_one
       (ps_ret pe_bl))))) pss_nil)
       (pss_cons
       (ps_if (pt_cmp (pc_isN (pv 1))) (pss_one
       (ps_ret (pe_cmp (pc_isN (pv 0))))) pss_nil)
       (pss_cons
       (ps_if (pt_val (pe_callB call_isi (by rfl) W.n_isinstance (by decide +kernel) (pa_cons (pv 1) (pa_cons (pgty (T := "bool") W.n_bool (by decide +kernel)) pa_nil)))) (pss_one
       (ps_ret (pe_and (pe_callB call_isi (by rfl) W.n_isinstance (by decide +kernel) (pa_cons (pv 0) (pa_cons (pgty (T := "bool") W.n_bool (by decide +kernel)) pa_nil))) (pe_one (pe_cmpR op_eq (pv 0) (pv 1) (nomark _)))))) pss_nil)
       (pss_cons
       (ps_if (pt_val (pe_callB call_isi (by rfl) W.n_isinstance (by decide +kernel) (pa_cons (pv 1) (pa_cons (pgty (T := "int") W.n_int (by decide +kernel)) pa_nil)))) (pss_one
       (ps_ret (pe_and (pe_callB call_isi (by rfl) W.n_isinstance (by decide +kernel) (pa_cons (pv 0) (pa_cons (pgty (T := "int") W.n_int (by decide +kernel)) pa_nil))) (pe_and (pe_not (pe_callB call_isi (by rfl) W.n_isinstance (by decide +kernel) (pa_cons (pv 0) (pa_cons (pgty (T := "bool") W.n_bool (by decide +kernel)) pa_nil)))) (pe_one (pe_cmpR op_eq (pv 0) (pv 1) (nomark _))))))) pss_nil)
       (pss_one
       (ps_ret (pe_and (pe_callB call_isi (by rfl) W.n_isinstance (by decide +kernel) (pa_cons (pv 0) (pa_cons (pgty (T := "str") W.n_str (by decide +kernel)) pa_nil))) (pe_one (pe_cmpR op_eq (pv 0) (pv 1) (nomark _))))))))))), ?_⟩
      rcases h with ⟨i, rfl, rfl⟩ | ⟨z, rfl, rfl⟩ | ⟨a, b, xs, ys, rfl, rfl, hx, hy, hz, hp⟩ | ⟨a, b, xs, ys, rfl, rfl, hx, hy, hz, hp⟩
      · -- an int
        have ti : TyX K H (.int i) (.type "int") := .base (.int i)
        refine ⟨_, rfl, _, _, _, _, false, rfl, .ty _, ti, kit_ty (by decide +kernel), _, rfl, iteF ?_⟩
        refine ⟨_, rfl, _, _, _, _, false, rfl, .ty _, ti, kit_ty (by decide +kernel), _, rfl, iteF ?_⟩
        refine ⟨_, rfl, _, rfl, ifF (by simp) ?_⟩
        refine ⟨_, rfl, _, _, _, _, false, rfl, .ty _, ti, kit_ty (by decide +kernel), _, rfl, iteF ?_⟩
        refine ⟨_, rfl, _, _, _, _, true, rfl, .ty _, ti, kit_ty (by decide +kernel), _, rfl, iteT ?_⟩
        refine ⟨_, rfl, _, _, _, _, true, rfl, .ty _, ti, kit_ty (by decide +kernel), _, rfl, iteT ?_⟩
        refine ⟨_, rfl, _, _, _, _, false, rfl, .ty _, ti, kit_ty (by decide +kernel), _, rfl, _, rfl, ifT rfl ?_⟩
        refine ⟨_, rfl, _, rfl, rfl, ?_⟩
        show Q (.bl (decide (V.int i = V.int i))) H
        rw [decide_eq_true rfl]
        exact q
      · -- a text
        have ti : TyX K H (.str z) (.type "str") := .base (.str z)
        refine ⟨_, rfl, _, _, _, _, false, rfl, .ty _, ti, kit_ty (by decide +kernel), _, rfl, iteF ?_⟩
        refine ⟨_, rfl, _, _, _, _, false, rfl, .ty _, ti, kit_ty (by decide +kernel), _, rfl, iteF ?_⟩
        refine ⟨_, rfl, _, rfl, ifF (by simp) ?_⟩
        refine ⟨_, rfl, _, _, _, _, false, rfl, .ty _, ti, kit_ty (by decide +kernel), _, rfl, iteF ?_⟩
        refine ⟨_, rfl, _, _, _, _, false, rfl, .ty _, ti, kit_ty (by decide +kernel), _, rfl, iteF ?_⟩
        refine ⟨_, rfl, _, _, _, _, true, rfl, .ty _, ti, kit_ty (by decide +kernel), _, rfl, iteT ?_⟩
        refine ⟨_, rfl, _, rfl, rfl, ?_⟩
        show Q (.bl (decide (V.str z = V.str z))) H
        rw [decide_eq_true rfl]
        exact q
      · -- a list
        have hlen := Paired.length hp
        have tx : TyX K H (.ref a) (.type "list") := .base (.lst hx)
        have ty : TyX K H (.ref b) (.type "list") := .base (.lst hy)
        refine ⟨_, rfl, _, _, _, _, false, rfl, .ty _, ty, kit_ty (by decide +kernel), _, rfl, iteF ?_⟩
        refine ⟨_, rfl, _, _, _, _, true, rfl, .ty _, ty, kit_ty (by decide +kernel), _, rfl, iteT ?_⟩
        refine ⟨_, rfl, _, _, _, _, false, rfl, .ty _, ty, kit_ty (by decide +kernel), _, rfl, _, _, _, _, false, rfl, .ty _, tx, kit_ty (by decide +kernel), rfl, _, rfl, ifF (by decide) ?_⟩
        refine ⟨_, rfl, _, _, _, _, true, rfl, .ty _, ty, kit_ty (by decide +kernel), _, rfl, _, _, _, _, true, rfl, .ty _, tx, kit_ty (by decide +kernel), rfl, _, rfl, ifF (by decide) ?_⟩
        refine ⟨_, rfl, _, _, rfl, .inl (SqL.of hx), _, rfl, _, _, rfl, .inl (SqL.of hy), rfl, _, rfl, ?_⟩
        refine iteNS (by rw [hlen]) ?_
        refine ⟨_, rfl, _, _, rfl, .inl (SqL.of hy), _, rfl, by omega, by omega, ?_⟩
        refine for_range (n := _) (fun i σ H' => H' = H ∧ ∃ z, σ = [some (.ref a), some (.ref b), z]) ⟨rfl, _, rfl⟩ (fun i σ H' hi pr => ?_) fun σ H' pr => ?_
        · obtain ⟨rfl, z, rfl⟩ := pr
          have e0 : (0 + (i : Int)) = (i : Int) := by omega
          rw [e0]
          have hix : i < xs.length := by omega
          have gx : xs[i]? = some xs[i] := List.getElem?_eq_getElem hix
          obtain ⟨v, gy, hs⟩ := paired_get hp gx
          exact ⟨_, rfl, _, rfl, .inl ⟨_, _, _, xs[i], rfl, rfl, SqL.of hx, atI_nat gx, _, rfl, _, rfl, .inl ⟨_, _, _, v, rfl, rfl, SqL.of hy, atI_nat gy, _, _, rfl, hs, _, rfl, iteF ⟨rfl, _, rfl⟩⟩⟩⟩
        · obtain ⟨rfl, z, rfl⟩ := pr
          exact q
      · -- a tuple
        have hlen := Paired.length hp
        have tx : TyX K H (.ref a) (.type "tuple") := .base (.tup hx)
        have ty : TyX K H (.ref b) (.type "tuple") := .base (.tup hy)
        refine ⟨_, rfl, _, _, _, _, true, rfl, .ty _, ty, kit_ty (by decide +kernel), _, rfl, iteT ?_⟩
        refine ⟨_, rfl, _, _, _, _, true, rfl, .ty _, ty, kit_ty (by decide +kernel), _, rfl, _, _, _, _, true, rfl, .ty _, tx, kit_ty (by decide +kernel), rfl, _, rfl, ifF (by decide) ?_⟩
        refine ⟨_, rfl, _, _, _, _, false, rfl, .ty _, ty, kit_ty (by decide +kernel), _, rfl, _, _, _, _, false, rfl, .ty _, tx, kit_ty (by decide +kernel), rfl, _, rfl, ifF (by decide) ?_⟩
        refine ⟨_, rfl, _, _, rfl, .inr (SqT.of hx), _, rfl, _, _, rfl, .inr (SqT.of hy), rfl, _, rfl, ?_⟩
        refine iteNS (by rw [hlen]) ?_
        refine ⟨_, rfl, _, _, rfl, .inr (SqT.of hy), _, rfl, by omega, by omega, ?_⟩
        refine for_range (n := _) (fun i σ H' => H' = H ∧ ∃ z, σ = [some (.ref a), some (.ref b), z]) ⟨rfl, _, rfl⟩ (fun i σ H' hi pr => ?_) fun σ H' pr => ?_
        · obtain ⟨rfl, z, rfl⟩ := pr
          have e0 : (0 + (i : Int)) = (i : Int) := by omega
          rw [e0]
          have hix : i < xs.length := by omega
          have gx : xs[i]? = some xs[i] := List.getElem?_eq_getElem hix
          obtain ⟨v, gy, hs⟩ := paired_get hp gx
          exact ⟨_, rfl, _, rfl, .inr <| .inl ⟨_, _, _, xs[i], rfl, rfl, SqT.of hx, atI_nat gx, _, rfl, _, rfl, .inr <| .inl ⟨_, _, _, v, rfl, rfl, SqT.of hy, atI_nat gy, _, _, rfl, hs, _, rfl, iteF ⟨rfl, _, rfl⟩⟩⟩⟩
        · obtain ⟨rfl, z, rfl⟩ := pr
          exact q
end
end KW
end

section
set_option Elab.async false
set_option linter.all false
set_option maxRecDepth 100000
set_option maxHeartbeats 4000000
/-! the law's own weak runs. -/
namespace KW
open PySem PySem.Spec PyProof.Rows L2 KR
def differ (lists : List (List Int)) (n : Nat) : Bool := decide (0 < (lists.filter fun l => !decide (l.getD n 0 = (lists.headD []).getD n 0)).length)
def lawPlaces (n : Nat) (lists : List (List Int)) : List Int := ((List.range n).filter (differ lists)).map fun (i : Nat) => (i : Int)
def lawRuns (n : Nat) (lists : List (List Int)) : List (Int × Int) := (lawPlaces n lists).foldl runStep []
theorem lawPlaces_succ (n : Nat) (lists : List (List Int)) : lawPlaces (n + 1) lists = if differ lists n = true then lawPlaces n lists ++ [(n : Int)] else lawPlaces n lists := by
  unfold lawPlaces
  rw [List.range_succ, List.filter_append]
  cases h : differ lists n with
  | true =>
    rw [if_pos rfl, List.filter_cons_of_pos h, List.map_append]
    rfl
  | false =>
    rw [if_neg (by decide), List.filter_cons_of_neg (by rw [h]; decide)]
    simp
theorem lawPlaces_len (n : Nat) (lists : List (List Int)) : (lawPlaces n lists).length ≤ n := by
  unfold lawPlaces
  rw [List.length_map]
  have h := List.length_filter_le (differ lists) (List.range n)
  rw [List.length_range] at h
  exact h
def pairD (r : Int × Int) : PyData := .tuple [.int r.1, .int r.2]
theorem dp_pairs {K : PySem.W.Frag} {H : Hp} : ∀ {acc : List (Int × Int)} {ys : List V}, Paired (fun r y => O2 r y H) acc ys → DpAll K H ys (acc.map pairD)
  | _, _, .nil => .nil
  | _, _, .cons ⟨p, e, h⟩ t => by
    subst e
    exact .cons (.tup (SqT.of h) (.cons (.int _) (.cons (.int _) .nil))) (dp_pairs t)
theorem can_pairs : ∀ acc : List (Int × Int), PyData.canLayAll0 (acc.map pairD) = true
  | [] => rfl
  | _ :: acc => can_pairs acc
theorem depth_pairs : ∀ acc : List (Int × Int), PyData.depthAll (acc.map pairD) ≤ 1
  | [] => Nat.zero_le _
  | r :: acc => by
    show max 1 (PyData.depthAll (acc.map pairD)) ≤ 1
    have := depth_pairs acc
    omega
theorem shaped_pairs (acc : List (Int × Int)) : SeqAt.shaped (.list (acc.map pairD)) = true := by
  unfold SeqAt.shaped
  rw [show PyData.canLay0 (.list (acc.map pairD)) = true from can_pairs acc]
  have h : PyData.depth (.list (acc.map pairD)) ≤ 2 := Nat.succ_le_succ (depth_pairs acc)
  rw [decide_eq_true (by omega)]
  rfl
theorem eqv_nil (acc : List (Int × Int)) : PyData.eqv (.list (acc.map pairD)) (.list []) = decide (acc = []) := by
  cases acc <;> rfl
section
variable {P : Program} {w : World} {K : PySem.W.Frag} {mg : Str → Option Value} {base : Heap}
def sp_law_weak_of (K : PySem.W.Frag) : Sp := fun vs H Q _ => ∃ y lists n, vs = [y] ∧ ORow OLst lists y H ∧ Even n lists ∧ n ≤ 100000 ∧ ∀ H' z, Same H H' → ORow OFe ((lawRuns n lists).map fun r => .weak r.1 r.2) z H' → Q z H'
abbrev N_law_weak_of : List Str := ["_law_lists", "_law_found", "_law_at", "_law_run", "_law_cells"]
theorem sc_law_weak_of : FnScope N_law_weak_of ["_law_lists"] (defScope s_law_weak_of) := ⟨rfl, rfl, rfl, by decide +kernel, rfl, by decide +kernel, by decide +kernel⟩
theorem ok_law_weak_of (W : T K mg) : Ok P w K mg base (1) "_law_weak_of" ["_law_lists"] (sp_law_weak_of K) := by
  refine W.f_law_weak_of.F.ok sc_law_weak_of (fun vs H Q E h => ?_) (fun cdv A outer s H vs Q E hr h => ?_)
  · obtain ⟨y, lists, n, rfl, _⟩ := h
    rfl
  · obtain ⟨_, lists, n, rfl, ⟨p, ls, rfl, hp, hpl⟩, hev, hz, q⟩ := h
    refine ⟨_, PSs.nox ((pss_cons
       (ps_set (i := 1) sc_law_weak_of.nd rfl (Or.inl rfl) (pe_lst pa_nil))
       (pss_cons
       (ps_for PassesOwn.never rfl (pi_range1 rfl W.n_range (pa_cons (pe_callB (cr_min rfl) (by rfl) W.n_min (by decide +kernel) (pa_cons (pe_lc (own := [("_law_cells", 4)]) rfl sc_law_weak_of.nd (pi_list (pv 0)) (blkOk_by (own := [("_law_cells", 4)]) (N := N_law_weak_of) (sc := defScope s_law_weak_of) (by decide +kernel)) (fun _ _ _ _ _ => (pg_name (i := 4) sc_law_weak_of.nd rfl (Or.inl rfl))) (fun _ _ _ _ _ => pts_nil) (fun _ _ _ _ _ => (pe_callB (call_len_seqK (K := K) rfl) (by rfl) W.n_len (by decide +kernel) (pa_cons (pv 4) pa_nil)))) pa_nil)) pa_nil)) (pg_name (i := 2) sc_law_weak_of.nd rfl (Or.inr rfl)) (pss_one
       (ps_if (pt_cmpR op_gt (pe_callB call_len_seq (by rfl) W.n_len (by decide +kernel) (pa_cons (pe_lc (own := [("_law_cells", 4)]) rfl sc_law_weak_of.nd (pi_list (pv 0)) (blkOk_by (own := [("_law_cells", 4)]) (N := N_law_weak_of) (sc := defScope s_law_weak_of) (by decide +kernel)) (fun _ _ _ _ _ => (pg_name (i := 4) sc_law_weak_of.nd rfl (Or.inl rfl))) (fun _ _ _ _ _ => (pts_one (pt_cmpR op_ne (pe_ix (ix_listK (K := K) rfl) (pv 4) (pv 2) (fun _ _ => rfl)) (pe_ix (ix_listK (K := K) rfl) (pe_ix (ix_listK (K := K) rfl) (pv 0) pe_int (fun _ _ => rfl)) (pv 2) (fun _ _ => rfl)) (nomark _)))) (fun _ _ _ _ _ => (pv 4))) pa_nil)) pe_int (nomark _)) (pss_one
       (ps_if (PW.pt (pw_and (pt_cmpR (op_neD hr.units) (pv 1) (pe_lst pa_nil) (nomark _)) (pw_and1 (pt_cmpR op_eq (pe_op op_add (pe_ix ix_tup (pe_ix ix_list (pv 1) (pe_un un_neg pe_int) (fun _ _ => rfl)) pe_int (fun _ _ => rfl)) (pe_ix ix_tup (pe_ix ix_list (pv 1) (pe_un un_neg pe_int) (fun _ _ => rfl)) pe_int (fun _ _ => rfl))) (pv 2) (nomark _))))) (pss_one
       (ps_asg (pe_tup (pa_cons (pe_ix ix_tup (pe_ix ix_list (pv 1) (pe_un un_neg pe_int) (fun _ _ => rfl)) pe_int (fun _ _ => rfl)) (pa_cons (pe_op op_add (pe_ix ix_tup (pe_ix ix_list (pv 1) (pe_un un_neg pe_int) (fun _ _ => rfl)) pe_int (fun _ _ => rfl)) pe_int) pa_nil))) (pg_sub (pv 1) (pe_un un_neg pe_int) set_list))) (pss_one
       (ps_expr (pe_bm PySem.F.plainAttrs_list PySem.F.slot_list_append PySem.F.type_list_append mt_append (pv 1) (pa_cons (pe_tup (pa_cons (pv 2) (pa_cons pe_int pa_nil))) pa_nil)))))) pss_nil)))
       (pss_one
       (ps_ret (pe_lc (own := [("_law_run", 3)]) rfl sc_law_weak_of.nd (pi_list (pv 1)) (blkOk_by (own := [("_law_run", 3)]) (N := N_law_weak_of) (sc := defScope s_law_weak_of) (by decide +kernel)) (fun _ _ _ _ _ => (pg_name (i := 3) sc_law_weak_of.nd rfl (Or.inl rfl))) (fun _ _ _ _ _ => pts_nil) (fun _ _ _ _ _ => (pe_tup (pa_cons pe_str (pa_cons (pe_ix (ix_tupK (K := K) rfl) (pv 3) pe_int (fun _ _ => rfl)) (pa_cons (pe_ix (ix_tupK (K := K) rfl) (pv 3) pe_int (fun _ _ => rfl)) pa_nil))))))))))), ?_⟩
    obtain ⟨h1, h100, hn⟩ := hev
    refine ⟨Nat.zero_le _, fun o no => ?_⟩
    have so := Same.new (o := .lst []) no
    have hlen := Paired.length hpl
    refine ⟨_, rfl, _, rfl, ⟨_, SqL.of (so _ _ hp)⟩, fun D nD => ?_⟩
    refine lcR_map OLst mono_OLst lists (fun _ => V.int (n : Nat)) (SqL.of (so _ _ hp)) (Paired.mapP hpl fun e y z => mono_OLst _ _ _ _ so z) (by show _ ≤ 16777216; omega) nD (fun l x HA k hm sa hl hk => ?_) fun H1 s1 hD => ?_
    · obtain ⟨b, rfl, hb⟩ := hl
      refine ⟨rfl, _, rfl, _, _, rfl, .inl (SqL.of hb), ?_⟩
      rw [List.length_map, hn l hm]
      exact hk _ (Same.refl _)
    refine ⟨D, lists.map fun _ => ((n : Nat) : Int), rfl, SqL.of (by rw [hD, List.map_map]; rfl), by rw [List.length_map]; exact h1, fun m hm _ => ?_⟩
    obtain ⟨l0, _, em⟩ := List.mem_map.mp hm
    rw [← em]
    have ho1 := s1 _ _ (upd_same (H := H) (a := o) (o := .lst []))
    have s01 := so.trans s1
    refine ⟨_, rfl, by omega, by omega, ?_⟩
    have en : ((n : Nat) : Int).toNat = n := Int.toNat_natCast _
    refine for_range (n := _) (fun i σ H' => Same H H' ∧ (∃ ys, H' o = some (.lst ys) ∧ Paired (fun e y => O2 e y H') ((lawPlaces i lists).foldl runStep []) ys) ∧ ∃ z u v, σ = [some (.ref p), some (.ref o), z, u, v]) ⟨s01, ⟨[], ho1, .nil⟩, _, _, _, rfl⟩ (fun i σ H' hi pr => ?_) fun σ H' pr => ?_
    · obtain ⟨s, ⟨ys, ho, hpr⟩, z, u, v, rfl⟩ := pr
      rw [en] at hi
      have e0 : (0 + (i : Int)) = (i : Int) := by omega
      rw [e0, lawPlaces_succ]
      have hwl := lawPlaces_len i lists
      have hal : ((lawPlaces i lists).foldl runStep []).length ≤ 100000 := by
        have h2 := runs_len (lawPlaces i lists) []
        have h3 : ([] : List (Int × Int)).length = 0 := rfl
        omega
      -- the lists that differ
      refine ⟨_, rfl, _, rfl, ⟨_, SqL.of (s _ _ hp)⟩, fun D2 nD2 => ?_⟩
      have hls : Paired (fun e y => OLst e y H') lists ls := Paired.mapP hpl fun e y z => mono_OLst _ _ _ _ s z
      have hh : ∃ l0 r, lists = l0 :: r := by
        cases lists with
        | nil => simp at h1
        | cons l0 r => exact ⟨l0, r, rfl⟩
      obtain ⟨l0, rr, ell⟩ := hh
      have h0 : lists[0]? = some l0 := by rw [ell]; rfl
      have hhd : lists.headD [] = l0 := by rw [ell]; rfl
      obtain ⟨y0, gy0, ho0⟩ := paired_get hls h0
      refine lcR_sel OLst mono_OLst lists (fun l => !decide (l.getD i 0 = (lists.headD []).getD i 0)) (SqL.of (s _ _ hp)) hls (by show _ ≤ 16777216; omega) nD2 (fun l x HA k nk hm sa hl hk hn' => ?_) fun H2 zs s2 hzs hpz => ?_
      · obtain ⟨b, rfl, hb⟩ := hl
        obtain ⟨b0, e0', hb0⟩ := mono_OLst _ _ _ _ sa ho0
        subst e0'
        have hli := hn l hm
        have hl0 := hn l0 (by rw [ell]; exact List.mem_cons_self ..)
        refine ⟨rfl, _, rfl, _, rfl, _, _, _, .int (l.getD i 0), rfl, rfl, SqL.of hb, atI_nat (at_getD (by omega)), ?_⟩
        refine ⟨_, rfl, _, _, _, .ref b0, rfl, rfl, SqL.of ((s.trans sa) _ _ hp), atI_nat (j := 0) gy0, _, rfl, _, _, _, .int (l0.getD i 0), rfl, rfl, SqL.of hb0, atI_nat (at_getD (by omega)), rfl, _, rfl, ?_⟩
        have ed : (!decide (V.int (l.getD i 0) = V.int (l0.getD i 0))) = !decide (l.getD i 0 = (lists.headD []).getD i 0) := by
          rw [hhd]
          congr 1
          by_cases h : l.getD i 0 = l0.getD i 0
          · rw [decide_eq_true h, decide_eq_true (by rw [h])]
          · rw [decide_eq_false h, decide_eq_false fun z => h (V.int.inj z)]
        rw [ed]
        refine ite2 (fun hc => ⟨_, rfl, hk hc _ (Same.refl _)⟩) fun hc => hn' (eq_false_of_ne_true hc) _ (Same.refl _)
      · have hzl := Paired.length hpz
        have sH2 := s.trans s2
        have ho2 := s2 _ _ ho
        have hpr2 := Paired.mapP hpr fun e y z => mono_O2 _ _ _ _ s2 z
        refine ⟨_, _, rfl, .inl (SqL.of hzs), _, _, rfl, rfl, _, rfl, ?_⟩
        rw [← hzl]
        have edf : decide ((0 : Int) < (((lists.filter fun l => !decide (l.getD i 0 = (lists.headD []).getD i 0)).length : Nat) : Int)) = differ lists i := by
          unfold differ
          by_cases h : 0 < (lists.filter fun l => !decide (l.getD i 0 = (lists.headD []).getD i 0)).length
          · rw [decide_eq_true h, decide_eq_true (by omega)]
          · rw [decide_eq_false h, decide_eq_false (by omega)]
        rw [edf]
        cases hdf : differ lists i with
        | false =>
          rw [if_neg (by decide : ¬ false = true)]
          exact iteF ⟨sH2, ⟨ys, ho2, hpr2⟩, _, _, _, rfl⟩
        | true =>
          rw [if_pos rfl, List.foldl_append]
          refine iteT ?_
          generalize (lawPlaces i lists).foldl runStep [] = acc at hpr2 hal ⊢
          have hyl := Paired.length hpr2
          have app : ∀ (H3 : Hp), Same H2 H3 → ∀ acc', acc' = acc ++ [((i : Int), (1 : Int))] → ∀ (Dn : Ends), (∀ σ' H4, (Same H H4 ∧ (∃ ys, H4 o = some (.lst ys) ∧ Paired (fun e y => O2 e y H4) acc' ys) ∧ ∃ z u v, σ' = [some (.ref p), some (.ref o), z, u, v]) → Dn.nx σ' H4) →
              tDrop (tBM K "list" rAppend (tVar 1) (tCons (tTup (tCons (tVar 2) (tCons (tC (.int 1)) tNil))) tNil)) Dn [some (.ref p), some (.ref o), some (.int (i : Int)), u, v] H3 := fun H3 s3 acc' e Dn hDn => by
            have ho3 := s3 _ _ ho2
            refine ⟨_, rfl, .inl ⟨rfl, _, SqL.of ho3⟩, _, rfl, (by show 2 ≤ sizeLine; decide), fun t nt => ?_⟩
            have st := Same.new (o := .tup [.int (i : Int), .int 1]) nt
            have hto : t ≠ o := (ne_of_none ho3 nt).symm
            refine ⟨_, _, _, rfl, rfl, st _ _ ho3, (by show _ < 16777216; omega), hDn _ _ ⟨Same.mut ((sH2.trans s3).trans st) no, ⟨_, upd_same, ?_⟩, _, _, _, rfl⟩⟩
            rw [e]
            refine Paired.snoc (Paired.mapP hpr2 fun e y z => O2.tups (fun p xs e => ?_) z) ⟨t, rfl, by rw [upd_ne hto, upd_same]⟩
            rw [upd_ne (ne_of e ho2 (by intro z; cases z))]
            exact st _ _ (s3 _ _ e)
          refine ⟨_, rfl, Nat.zero_le _, fun e ne => ?_⟩
          have se := Same.new (o := .lst []) ne
          refine ⟨.list (acc.map pairD), .list [], .lst (SqL.of (se _ _ ho2)) (dp_pairs (Paired.mapP hpr2 fun e y z => mono_O2 _ _ _ _ se z)), .lst (SqL.of upd_same) .nil, shaped_pairs acc, rfl, _, rfl, ?_⟩
          rw [eqv_nil]
          rcases List.eq_nil_or_concat acc with rfl | ⟨fs, r, hacc⟩
          · refine ifF (by decide) (iteF ?_)
            exact app _ se _ (runStep_nil _) _ fun σ' H4 h4 => h4
          · rw [List.concat_eq_append] at hacc
            subst hacc
            obtain ⟨ys', yl, rfl, hp', ⟨t, rfl, ht⟩⟩ := paired_snoc hpr2
            have hte := se _ _ ht
            have hoe := se _ _ ho2
            refine ifT (by rw [decide_eq_false (by simp)]; rfl) ?_
            refine ⟨_, rfl, _, rfl, _, _, _, .ref t, rfl, rfl, SqL.of hoe, atI_snoc, _, _, _, .int r.1, rfl, rfl, SqT.of hte, rfl, _, rfl, _, rfl, _, _, _, .ref t, rfl, rfl, SqL.of hoe, atI_snoc, _, _, _, .int r.2, rfl, rfl, SqT.of hte, rfl, _, _, rfl, rfl, _, rfl, rfl, _, rfl, ?_⟩
            refine ite2 (fun hc => ?_) fun hc => ?_
            · have hc' : r.1 + r.2 = (i : Int) := V.int.inj (of_decide_eq_true hc)
              refine ⟨_, rfl, _, rfl, _, _, _, .ref t, rfl, rfl, SqL.of hoe, atI_snoc, _, _, _, .int r.1, rfl, rfl, SqT.of hte, rfl, ?_⟩
              refine ⟨_, rfl, _, rfl, _, _, _, .ref t, rfl, rfl, SqL.of hoe, atI_snoc, _, _, _, .int r.2, rfl, rfl, SqT.of hte, rfl, _, _, rfl, rfl, (by show 2 ≤ sizeLine; decide), fun c nc => ?_⟩
              have sc := Same.new (o := .tup [.int r.1, .int (r.2 + 1)]) nc
              refine ⟨_, rfl, _, rfl, _, _, _, _, rfl, rfl, sc _ _ hoe, ixN_last (by rw [List.length_append]; exact Nat.succ_pos _), ?_⟩
              have e1 : (ys' ++ [V.ref t]).length - 1 = ys'.length := by rw [List.length_append]; rfl
              rw [e1, set_last]
              have hco : c ≠ o := (ne_of_none hoe nc).symm
              refine ⟨Same.mut ((sH2.trans se).trans sc) no, ⟨_, upd_same, ?_⟩, _, _, _, rfl⟩
              show Paired _ (runStep (fs ++ [r]) (i : Int)) _
              rw [runStep_snoc, if_pos hc']
              refine Paired.snoc (Paired.mapP hp' fun e y z => O2.tups (fun p xs e => ?_) z) ⟨c, rfl, by rw [upd_ne hco, upd_same]⟩
              rw [upd_ne (ne_of e ho2 (by intro z; cases z))]
              exact sc _ _ (se _ _ e)
            · have hc' : ¬ r.1 + r.2 = (i : Int) := fun z => hc (decide_eq_true (congrArg V.int z))
              exact app _ se _ (by show runStep (fs ++ [r]) (i : Int) = _; rw [runStep_snoc, if_neg hc']) _ fun σ' H4 h4 => h4
    · obtain ⟨s, ⟨ys, ho, hpr⟩, z, u, v, rfl⟩ := pr
      rw [en] at hpr
      have hwr : ((lawPlaces n lists).foldl runStep []).length ≤ 100000 := by
        have h2 := runs_len (lawPlaces n lists) []
        have h3 : ([] : List (Int × Int)).length = 0 := rfl
        have h4 := lawPlaces_len n lists
        omega
      refine ⟨_, rfl, _, rfl, ⟨_, SqL.of ho⟩, fun D2 nD2 => ?_⟩
      refine lc_all ((lawPlaces n lists).foldl runStep []) O2 OFe yes (fun r => .weak r.1 r.2) mono_O2 mono_OFe hpr (SqL.of ho) (by rw [← Paired.length hpr]; show _ ≤ 16777216; omega) nD2 (fun r x H6 hm s6 ho hn6 k n6 hk _ => ?_) fun H6 N fy s6 s6' nN ho fp => ?_
      · obtain ⟨t, rfl, ht⟩ := ho
        refine ⟨rfl, _, rfl, _, _, _, .int r.1, rfl, rfl, SqT.of ht, rfl, _, rfl, _, _, _, .int r.2, rfl, rfl, SqT.of ht, rfl, (by show 3 ≤ sizeLine; decide), fun u nu => hk rfl _ _ (Same.new nu) ⟨u, u, rfl, ?_, fun a ha => by cases ha⟩⟩
        rw [del_ne (fun z => hn6 (by rw [← z]; exact nu)), upd_same]
        rfl
      · rw [filter_yes] at fp
        exact q _ _ (s.trans (s6.trans s6')) ⟨D2, fy, rfl, ho, Paired.mapP fp fun e y z => mono_OFe _ _ _ _ s6' z⟩
end
end KW
end

section
set_option Elab.async false
set_option linter.all false
set_option maxRecDepth 100000
set_option maxHeartbeats 4000000
/-! The mathematics: cells through flux and back. -/
namespace KW
open PySem PySem.Spec PyProof.Rows L2 KR
theorem cnt_k {k : Int} (h : 1 ≤ k) : cntOf 40 (k * 40) = k := by
  unfold cntOf
  have e : (2 * (k * 40) + 40) / (2 * 40) = k := by omega
  rw [e]
  split <;> omega
def decode (st : List Int × Int) : List Int := fixedIv 40 st.1 ++ List.replicate st.2.toNat 0
theorem decode_step {st : List Int × Int} (h : 0 ≤ st.2) {b : Int} (hb : b = 0 ∨ b = 1) : decode (fluxStep 40 st b) = decode st ++ [b] := by
  unfold fluxStep decode
  rcases hb with rfl | rfl
  · rw [if_neg (by decide)]
    show fixedIv 40 st.1 ++ List.replicate (st.2 + 1).toNat 0 = _
    have e : (st.2 + 1).toNat = st.2.toNat + 1 := by omega
    rw [e, List.replicate_succ', List.append_assoc]
  · rw [if_pos rfl]
    show fixedIv 40 (st.1 ++ [(st.2 + 1) * 40]) ++ List.replicate (0 : Int).toNat 0 = _
    rw [fixedIv_snoc, cnt_k (by omega)]
    have e : (st.2 + 1 - 1).toNat = st.2.toNat := by omega
    rw [e]
    simp [List.append_assoc]
theorem step_nn {st : List Int × Int} (h : 0 ≤ st.2) (b : Int) : 0 ≤ (fluxStep 40 st b).2 := by
  unfold fluxStep
  split
  · exact Int.le_refl _
  · show 0 ≤ st.2 + 1
    omega
theorem decode_all : ∀ (cells : List Int) (st : List Int × Int), Bits cells → 0 ≤ st.2 → decode (cells.foldl (fluxStep 40) st) = decode st ++ cells ∧ 0 ≤ (cells.foldl (fluxStep 40) st).2
  | [], st, _, h => ⟨by rw [List.append_nil]; rfl, h⟩
  | b :: cells, st, hb, h => by
    obtain ⟨h1, h2⟩ := decode_all cells (fluxStep 40 st b) (fun x hx => hb x (List.mem_cons_of_mem _ hx)) (step_nn h b)
    refine ⟨?_, h2⟩
    rw [List.foldl_cons, h1, decode_step h (hb b (List.mem_cons_self ..)), List.append_assoc]
    rfl
theorem flux_back {cells : List Int} (hb : Bits cells) : fixedCells (fluxOf cells 40) 40 = cells := by
  obtain ⟨h1, h2⟩ := decode_all cells ([], 0) hb (Int.le_refl _)
  unfold fixedCells fluxOf fluxSt
  show fixedIv 40 (cells.foldl (fluxStep 40) ([], 0)).1 ++ List.replicate ((2 * ((cells.foldl (fluxStep 40) ([], 0)).2 * 40) + 40) / (2 * 40)).toNat 0 = cells
  have e : (2 * ((cells.foldl (fluxStep 40) ([], 0)).2 * 40) + 40) / (2 * 40) = (cells.foldl (fluxStep 40) ([], 0)).2 := by omega
  rw [e]
  exact h1
theorem flux_bounds : ∀ (cells : List Int) (st : List Int × Int) (m : Int), 0 ≤ st.2 → st.2 ≤ m → (∀ i ∈ st.1, 1 ≤ i ∧ i ≤ m * 40) →
    0 ≤ (cells.foldl (fluxStep 40) st).2 ∧ (cells.foldl (fluxStep 40) st).2 ≤ m + cells.length ∧ ∀ i ∈ (cells.foldl (fluxStep 40) st).1, 1 ≤ i ∧ i ≤ (m + cells.length) * 40
  | [], st, m, h1, h2, h3 => ⟨h1, by simpa using h2, fun i hi => by have := h3 i hi; simpa using this⟩
  | b :: cells, st, m, h1, h2, h3 => by
    have key : 0 ≤ (fluxStep 40 st b).2 ∧ (fluxStep 40 st b).2 ≤ m + 1 ∧ ∀ i ∈ (fluxStep 40 st b).1, 1 ≤ i ∧ i ≤ (m + 1) * 40 := by
      unfold fluxStep
      split
      · refine ⟨Int.le_refl _, by show (0 : Int) ≤ m + 1; omega, fun i hi => ?_⟩
        rcases List.mem_append.mp hi with hi | hi
        · have := h3 i hi
          omega
        · rw [List.mem_singleton] at hi
          omega
      · refine ⟨by show 0 ≤ st.2 + 1; omega, by show st.2 + 1 ≤ m + 1; omega, fun i hi => ?_⟩
        have := h3 i hi
        omega
    obtain ⟨g1, g2, g3⟩ := flux_bounds cells (fluxStep 40 st b) (m + 1) key.1 key.2.1 key.2.2
    rw [List.foldl_cons, List.length_cons]
    refine ⟨g1, by omega, fun i hi => ?_⟩
    have := g3 i hi
    omega
theorem flux_ok {cells : List Int} (hl : cells.length ≤ 5000) : Few (fluxOf cells 40) := by
  obtain ⟨h1, h2, h3⟩ := flux_bounds cells ([], 0) 0 (Int.le_refl _) (Int.le_refl _) (fun i hi => by cases hi)
  have hlen : (fluxSt 40 cells).1.length ≤ 0 + cells.length := flux_len 40 cells ([], 0)
  refine ⟨⟨?_, ?_, ?_, fun i hi => ?_⟩, ?_⟩
  · show (fluxSt 40 cells).1.length ≤ 60000
    omega
  · show 0 ≤ (fluxSt 40 cells).2 * 40
    unfold fluxSt
    omega
  · show (fluxSt 40 cells).2 * 40 ≤ 1000000
    unfold fluxSt
    omega
  · have := h3 i hi
    omega
  · show (fluxSt 40 cells).1.length ≤ 5000
    omega
end KW
end

section
set_option Elab.async false
set_option linter.all false
set_option maxRecDepth 100000
set_option maxHeartbeats 4000000
/-! The mathematics: the weak places are where the lists differ. -/
namespace KW
open PySem PySem.Spec PyProof.Rows L2 KR
theorem range_getD (ns : List Int) : (List.range ns.length).map (fun i => ns.getD i 0) = ns := by
  apply List.ext_getElem
  · rw [List.length_map, List.length_range]
  · intro i h1 h2
    rw [List.getElem_map, List.getElem_range, List.getD_eq_getElem?_getD, List.getElem?_eq_getElem h2]
    rfl
theorem dedup_grow : ∀ (r acc : List Int), acc.length ≤ (r.foldl step_dedup acc).length
  | [], _ => Nat.le_refl _
  | x :: r, acc => by
    refine Nat.le_trans ?_ (dedup_grow r (step_dedup acc x))
    unfold step_dedup
    split
    · exact Nat.le_refl _
    · rw [List.length_append]
      exact Nat.le_add_right _ _
theorem dedup_all (x : Int) : ∀ r : List Int, (∀ y ∈ r, y = x) → r.foldl step_dedup [x] = [x]
  | [], _ => rfl
  | z :: r, h => by
    have hz : z = x := h z (List.mem_cons_self ..)
    rw [List.foldl_cons]
    have e : step_dedup [x] z = [x] := by
      unfold step_dedup
      simp [hz]
    rw [e]
    exact dedup_all x r fun y hy => h y (List.mem_cons_of_mem _ hy)
theorem dedup_two (x : Int) : ∀ r : List Int, (∃ y ∈ r, y ≠ x) → 1 < (r.foldl step_dedup [x]).length
  | [], ⟨_, h, _⟩ => by cases h
  | z :: r, ⟨y, hy, hne⟩ => by
    rw [List.foldl_cons]
    by_cases hz : z = x
    · have e : step_dedup [x] z = [x] := by
        unfold step_dedup
        simp [hz]
      rw [e]
      refine dedup_two x r ⟨y, ?_, hne⟩
      rcases List.mem_cons.mp hy with rfl | hy
      · exact absurd hz hne
      · exact hy
    · have e : step_dedup [x] z = [x, z] := by
        unfold step_dedup
        have : ¬ x = z := fun h => hz h.symm
        simp [this]
      rw [e]
      exact Nat.lt_of_lt_of_le (by decide : 1 < 2) (dedup_grow r [x, z])
theorem distinct_cons (x : Int) (r : List Int) : distinct (x :: r) = (r.foldl step_dedup [x]).length := by
  unfold distinct firstMet
  rw [range_getD (x :: r)]
  rfl
theorem differ_eq {lists : List (List Int)} (h : 0 < lists.length) (n : Nat) : decide (1 < distinct (lists.map fun l => l.getD n 0)) = differ lists n := by
  cases lists with
  | nil => simp at h
  | cons l0 r =>
    rw [List.map_cons, distinct_cons]
    unfold differ
    have hh : (l0 :: r).headD [] = l0 := rfl
    rw [hh]
    by_cases hx : ∃ l ∈ r, l.getD n 0 ≠ l0.getD n 0
    · obtain ⟨l, hl, hne⟩ := hx
      have h1 : 1 < ((r.map fun l => l.getD n 0).foldl step_dedup [l0.getD n 0]).length := dedup_two _ _ ⟨_, List.mem_map.mpr ⟨l, hl, rfl⟩, hne⟩
      have h2 : 0 < ((l0 :: r).filter fun l => !decide (l.getD n 0 = l0.getD n 0)).length := by
        apply List.length_pos_of_mem (a := l)
        rw [List.mem_filter]
        refine ⟨List.mem_cons_of_mem _ hl, ?_⟩
        rw [decide_eq_false hne]
        rfl
      rw [decide_eq_true h1, decide_eq_true h2]
    · have h1 : (r.map fun l => l.getD n 0).foldl step_dedup [l0.getD n 0] = [l0.getD n 0] := dedup_all _ _ fun y hy => by
        obtain ⟨l, hl, rfl⟩ := List.mem_map.mp hy
        exact Decidable.byContradiction fun hne => hx ⟨l, hl, hne⟩
      have h2 : (l0 :: r).filter (fun l => !decide (l.getD n 0 = l0.getD n 0)) = [] := by
        rw [List.filter_eq_nil_iff]
        intro l hl
        rcases List.mem_cons.mp hl with rfl | hl
        · rw [decide_eq_true rfl]
          decide
        · have : l.getD n 0 = l0.getD n 0 := Decidable.byContradiction fun hne => hx ⟨l, hl, hne⟩
          rw [decide_eq_true this]
          decide
      rw [h1, h2]
      rfl
theorem weak_law {lists : List (List Int)} (h : 0 < lists.length) (n : Nat) : weakRuns n lists = lawRuns n lists := by
  unfold weakRuns lawRuns
  congr 1
  unfold weakPlaces lawPlaces
  congr 1
  congr 1
  funext i
  exact differ_eq h i
end KW
end

section
set_option Elab.async false
set_option linter.all false
set_option maxRecDepth 100000
set_option maxHeartbeats 4000000
/-! The mathematics: few marks. -/
namespace KW
open PySem PySem.Spec PyProof.Rows L2 KR
/-! ### missing clocks -/
def missC : Int → List Int → Nat
  | b, c :: d :: r => (if b = 0 ∧ c = 0 ∧ d = 0 then 1 else 0) + missC d r
  | _, _ => 0
def missAt : Int → List Int → Nat → Bool
  | b, c :: d :: _, 0 => decide (b = 0 ∧ c = 0 ∧ d = 0)
  | _, _ :: d :: r, j + 1 => missAt d r j
  | _, _, _ => false
theorem miss_count : ∀ (l : List Int) (b : Int) (js : List Nat), js.Pairwise (· < ·) → (∀ j ∈ js, missAt b l j = true) → js.length ≤ missC b l
  | [], b, js, _, h => by
    cases js with
    | nil => exact Nat.zero_le _
    | cons j js => exact absurd (h j (List.mem_cons_self ..)) (by cases j <;> exact Bool.false_ne_true)
  | [c], b, js, _, h => by
    cases js with
    | nil => exact Nat.zero_le _
    | cons j js => exact absurd (h j (List.mem_cons_self ..)) (by cases j <;> exact Bool.false_ne_true)
  | c :: d :: r, b, js, hp, h => by
    have tail : ∀ ks : List Nat, ks.Pairwise (· < ·) → (∀ k ∈ ks, 1 ≤ k ∧ missAt b (c :: d :: r) k = true) → ks.length ≤ missC d r := fun ks kp kh => by
      have h1 := miss_count r d (ks.map (· - 1)) ?_ ?_
      · rwa [List.length_map] at h1
      · rw [List.pairwise_map]
        refine List.Pairwise.imp_of_mem (fun {x y} hx hy hlt => ?_) kp
        have := (kh x hx).1
        omega
      · intro j hj
        obtain ⟨k, hk, rfl⟩ := List.mem_map.mp hj
        obtain ⟨k1, k2⟩ := kh k hk
        obtain ⟨k', rfl⟩ : ∃ k', k = k' + 1 := ⟨k - 1, by omega⟩
        exact k2
    show js.length ≤ (if b = 0 ∧ c = 0 ∧ d = 0 then 1 else 0) + missC d r
    cases js with
    | nil => exact Nat.zero_le _
    | cons j js =>
      rw [List.pairwise_cons] at hp
      cases j with
      | zero =>
        have h0 : decide (b = 0 ∧ c = 0 ∧ d = 0) = true := h 0 (List.mem_cons_self ..)
        have h1 := tail js hp.2 fun k hk => ⟨hp.1 k hk, h k (List.mem_cons_of_mem _ hk)⟩
        rw [if_pos (of_decide_eq_true h0), List.length_cons]
        omega
      | succ j =>
        have h1 := tail ((j + 1) :: js) (List.pairwise_cons.mpr hp) fun k hk => ⟨by
          rcases List.mem_cons.mp hk with rfl | hk
          · omega
          · have := hp.1 k hk
            omega, h k hk⟩
        omega
theorem miss_get : ∀ (j : Nat) (l : List Int) (b : Int), l[2 * j + 1]? = some 0 → l[2 * j + 2]? = some 0 → l[2 * j + 3]? = some 0 → missAt b l (j + 1) = true
  | 0, c :: d :: c' :: d' :: r, b, h1, h2, h3 => by
    have e1 : d = 0 := Option.some.inj h1
    have e2 : c' = 0 := Option.some.inj h2
    have e3 : d' = 0 := Option.some.inj h3
    subst e1 e2 e3
    rfl
  | 0, [], b, h1, _, _ => by simp at h1
  | 0, [_], b, h1, _, _ => by simp at h1
  | 0, [_, _], b, _, h2, _ => by simp at h2
  | 0, [_, _, _], b, _, _, h3 => by simp at h3
  | j + 1, c :: d :: r, b, h1, h2, h3 => miss_get j r d h1 h2 h3
  | j + 1, [], b, h1, _, _ => by simp at h1
  | j + 1, [_], b, h1, _, _ => by simp at h1
theorem missC_app : ∀ (x : List Int) (b : Int) (y : List Int), x.length % 2 = 0 → missC b (x ++ y) = missC b x + missC (x.getLastD b) y
  | [], b, y, _ => by show missC b y = 0 + missC b y; omega
  | [_], _, _, h => by simp at h
  | c :: d :: r, b, y, h => by
    have h' : r.length % 2 = 0 := by
      rw [List.length_cons, List.length_cons] at h
      omega
    show (if b = 0 ∧ c = 0 ∧ d = 0 then 1 else 0) + missC d (r ++ y) = (if b = 0 ∧ c = 0 ∧ d = 0 then 1 else 0) + missC d r + missC ((c :: d :: r).getLastD b) y
    rw [missC_app r d y h']
    have e : (c :: d :: r).getLastD b = r.getLastD d := by cases r <;> rfl
    rw [e]
    omega
theorem miss_mfm : ∀ (bits : List Int) (b : Int), missC b (mfmGo b bits) = 0
  | [], _ => rfl
  | d :: r, b => by
    show (if b = 0 ∧ clockFor b d = 0 ∧ d = 0 then 1 else 0) + missC d (mfmGo d r) = 0
    rw [miss_mfm r d, if_neg]
    rintro ⟨h1, h2, h3⟩
    unfold clockFor at h2
    rw [if_pos ⟨h1, h3⟩] at h2
    exact absurd h2 (by decide)
theorem miss_three (b : Int) : missC b vals_THREE_MARKS = 3 := by
  show (if b = 0 ∧ (0 : Int) = 0 ∧ (1 : Int) = 0 then 1 else 0) + missC 1 _ = 3
  rw [if_neg (by rintro ⟨_, _, h⟩; exact absurd h (by decide))]
  decide
/-! ### no four zeros in a row -/
def n4 : Nat → List Int → Bool
  | _, [] => true
  | z, c :: r => if c = 0 then decide (z + 1 ≤ 3) && n4 (z + 1) r else n4 0 r
def endz : Nat → List Int → Nat
  | z, [] => z
  | z, c :: r => if c = 0 then endz (z + 1) r else endz 0 r
theorem n4_app : ∀ (x : List Int) (z : Nat) (y : List Int), n4 z (x ++ y) = (n4 z x && n4 (endz z x) y)
  | [], z, y => by show n4 z y = (true && n4 z y); rw [Bool.true_and]
  | c :: r, z, y => by
    show (if c = 0 then decide (z + 1 ≤ 3) && n4 (z + 1) (r ++ y) else n4 0 (r ++ y)) = ((if c = 0 then decide (z + 1 ≤ 3) && n4 (z + 1) r else n4 0 r) && n4 (if c = 0 then endz (z + 1) r else endz 0 r) y)
    split
    · rw [n4_app r (z + 1) y, Bool.and_assoc]
    · rw [n4_app r 0 y]
theorem endz_app : ∀ (x : List Int) (z : Nat) (y : List Int), endz z (x ++ y) = endz (endz z x) y
  | [], z, y => rfl
  | c :: r, z, y => by
    show (if c = 0 then endz (z + 1) (r ++ y) else endz 0 (r ++ y)) = endz (if c = 0 then endz (z + 1) r else endz 0 r) y
    split
    · rw [endz_app r (z + 1) y]
    · rw [endz_app r 0 y]
def No4 (l : List Int) : Prop := ∀ e : Nat, ¬ (l[e]? = some 0 ∧ l[e + 1]? = some 0 ∧ l[e + 2]? = some 0 ∧ l[e + 3]? = some 0)
theorem n4_tail : ∀ (z : Nat) (c : Int) (r : List Int), n4 z (c :: r) = true → ∃ z', n4 z' r = true := fun z c r h => by
  have h' : (if c = 0 then decide (z + 1 ≤ 3) && n4 (z + 1) r else n4 0 r) = true := h
  split at h'
  · exact ⟨_, (Bool.and_eq_true_iff.mp h').2⟩
  · exact ⟨_, h'⟩
theorem n4_no4 : ∀ (e : Nat) (z : Nat) (l : List Int), n4 z l = true → ¬ (l[e]? = some 0 ∧ l[e + 1]? = some 0 ∧ l[e + 2]? = some 0 ∧ l[e + 3]? = some 0)
  | 0, z, a :: b :: c :: d :: r, h, ⟨h1, h2, h3, h4⟩ => by
    have e1 : a = 0 := Option.some.inj h1
    have e2 : b = 0 := Option.some.inj h2
    have e3 : c = 0 := Option.some.inj h3
    have e4 : d = 0 := Option.some.inj h4
    subst e1 e2 e3 e4
    have h' : (decide (z + 1 ≤ 3) && (decide (z + 1 + 1 ≤ 3) && (decide (z + 1 + 1 + 1 ≤ 3) && (decide (z + 1 + 1 + 1 + 1 ≤ 3) && n4 (z + 1 + 1 + 1 + 1) r)))) = true := h
    simp only [Bool.and_eq_true, decide_eq_true_eq] at h'
    omega
  | 0, _, [], _, h => by simp at h
  | 0, _, [_], _, h => by simp at h
  | 0, _, [_, _], _, h => by simp at h
  | 0, _, [_, _, _], _, h => by simp at h
  | e + 1, z, [], _, h => by simp at h
  | e + 1, z, c :: r, h, hz => by
    obtain ⟨z', h'⟩ := n4_tail z c r h
    exact n4_no4 e z' r h' hz
/-- the last cell and the zeros at the end -/
def Vz (b : Int) (z : Nat) : Prop := (b = 1 ∧ z = 0) ∨ (b = 0 ∧ z ≤ 2)
theorem mfm_n4 : ∀ (bits : List Int) (b : Int) (z : Nat), Bits bits → Vz b z → n4 z (mfmGo b bits) = true ∧ Vz (bits.getLastD b) (endz z (mfmGo b bits))
  | [], b, z, _, h => ⟨rfl, h⟩
  | d :: r, b, z, hb, h => by
    have hd : d = 0 ∨ d = 1 := hb d (List.mem_cons_self ..)
    have hr : Bits r := fun x hx => hb x (List.mem_cons_of_mem _ hx)
    have el : (d :: r).getLastD b = r.getLastD d := by cases r <;> rfl
    rw [el]
    rcases h with ⟨rfl, rfl⟩ | ⟨rfl, hz⟩ <;> rcases hd with rfl | rfl
    · obtain ⟨h1, h2⟩ := mfm_n4 r 0 2 hr (.inr ⟨rfl, Nat.le_refl _⟩)
      exact ⟨h1, h2⟩
    · obtain ⟨h1, h2⟩ := mfm_n4 r 1 0 hr (.inl ⟨rfl, rfl⟩)
      exact ⟨h1, h2⟩
    · obtain ⟨h1, h2⟩ := mfm_n4 r 0 1 hr (.inr ⟨rfl, by decide⟩)
      exact ⟨h1, h2⟩
    · obtain ⟨h1, h2⟩ := mfm_n4 r 1 0 hr (.inl ⟨rfl, rfl⟩)
      refine ⟨?_, h2⟩
      show (decide (z + 1 ≤ 3) && n4 0 (mfmGo 1 r)) = true
      rw [h1, decide_eq_true (by omega)]
      rfl
theorem three_n4 {b : Int} {z : Nat} (h : Vz b z) : n4 z vals_THREE_MARKS = true ∧ endz z vals_THREE_MARKS = 0 := by
  have hz : z + 1 ≤ 3 := by
    rcases h with ⟨_, h⟩ | ⟨_, h⟩ <;> omega
  constructor
  · show (decide (z + 1 ≤ 3) && n4 0 _) = true
    rw [decide_eq_true hz]
    decide
  · show endz 0 _ = 0
    decide
theorem allBits_bits (vs : List Int) : Bits (allBits vs) := fun b hb => by
  obtain ⟨v, _, hv⟩ := List.mem_flatMap.mp hb
  obtain ⟨w, _, rfl⟩ := List.mem_map.mp hv
  have h1 := Int.emod_nonneg (v / w) (by decide : (2 : Int) ≠ 0)
  have h2 := Int.emod_lt_of_pos (v / w) (by decide : (0 : Int) < 2)
  omega
theorem mfmGo_bits : ∀ (bits : List Int) (b : Int), Bits bits → Bits (mfmGo b bits)
  | [], _, _ => fun x hx => by cases hx
  | d :: r, b, h => fun x hx => by
    rcases List.mem_cons.mp hx with rfl | hx
    · unfold clockFor
      split
      · exact .inr rfl
      · exact .inl rfl
    · rcases List.mem_cons.mp hx with rfl | hx
      · exact h _ (List.mem_cons_self ..)
      · exact mfmGo_bits r d (fun y hy => h y (List.mem_cons_of_mem _ hy)) x hx
/-- what a writer has written -/
structure WS (cells : List Int) (m : Nat) : Prop where
  bits : Bits cells
  even : cells.length % 2 = 0
  n : n4 0 cells = true
  v : Vz (cells.getLastD 0) (endz 0 cells)
  miss : missC 0 cells = m
theorem getLastD_app (x y : List Int) (b : Int) : (x ++ y).getLastD b = y.getLastD (x.getLastD b) := by
  rw [List.getLastD_eq_getLast?, List.getLastD_eq_getLast?, List.getLastD_eq_getLast?, List.getLast?_append]
  cases y.getLast? <;> rfl
theorem WS.plain {cells : List Int} {m : Nat} (h : WS cells m) (ns : List Int) : WS (wPlain cells ns) m := by
  obtain ⟨h1, h2, h3, h4, h5⟩ := h
  obtain ⟨g1, g2⟩ := mfm_n4 (allBits ns) (cells.getLastD 0) (endz 0 cells) (allBits_bits ns) h4
  unfold wPlain
  refine ⟨fun x hx => ?_, ?_, ?_, ?_, ?_⟩
  · rcases List.mem_append.mp hx with hx | hx
    · exact h1 x hx
    · exact mfmGo_bits _ _ (allBits_bits ns) x hx
  · rw [List.length_append, mfm_len]
    omega
  · rw [n4_app, h3, Bool.true_and]
    exact g1
  · rw [getLastD_app, endz_app]
    have e : (mfm (cells.getLastD 0) ns).getLastD (cells.getLastD 0) = (allBits ns).getLastD (cells.getLastD 0) := by
      unfold mfm
      generalize allBits ns = bits
      generalize cells.getLastD 0 = b
      induction bits generalizing b with
      | nil => rfl
      | cons d r ih =>
        have e1 : (mfmGo b (d :: r)).getLastD b = (mfmGo d r).getLastD d := by
          show (clockFor b d :: d :: mfmGo d r).getLastD b = _
          cases mfmGo d r <;> rfl
        have e2 : (d :: r).getLastD b = r.getLastD d := by cases r <;> rfl
        rw [e1, e2, ih d]
    rw [e]
    exact g2
  · rw [missC_app _ _ _ h2, h5]
    show m + missC (cells.getLastD 0) (mfmGo (cells.getLastD 0) (allBits ns)) = m
    rw [miss_mfm]
    rfl
theorem WS.three {cells : List Int} {m : Nat} (h : WS cells m) : WS (cells ++ vals_THREE_MARKS) (m + 3) := by
  obtain ⟨h1, h2, h3, h4, h5⟩ := h
  obtain ⟨g1, g2⟩ := three_n4 h4
  refine ⟨fun x hx => ?_, ?_, ?_, ?_, ?_⟩
  · rcases List.mem_append.mp hx with hx | hx
    · exact h1 x hx
    · exact (by decide : ∀ x ∈ vals_THREE_MARKS, x = 0 ∨ x = 1) x hx
  · rw [List.length_append]
    have : vals_THREE_MARKS.length = 48 := rfl
    omega
  · rw [n4_app, h3, Bool.true_and]
    exact g1
  · rw [getLastD_app, endz_app, g2]
    exact .inl ⟨rfl, rfl⟩
  · rw [missC_app _ _ _ h2, h5, miss_three]
theorem WS.field {cells : List Int} {m : Nat} (h : WS cells m) (vs : List Int) (wr : Bool) : WS (wField cells vs wr) (m + 3) := by
  unfold wField
  exact ((h.plain _).three).plain _
theorem WS.sector {cells : List Int} {m : Nat} (h : WS cells m) (s : SecD) : ∃ k, k ≤ m + 6 ∧ WS (wSector cells s) k := by
  unfold wSector wData
  have h1 := (h.field (254 :: s.adr) s.aw).plain (List.replicate 8 78)
  cases s.data with
  | none => exact ⟨m + 3, by omega, h1.plain _⟩
  | some l => exact ⟨m + 6, Nat.le_refl _, (h1.field (251 :: l) s.dw).plain _⟩
theorem WS.sectors : ∀ (secs : List SecD) {cells : List Int} {m : Nat}, WS cells m → ∃ k, k ≤ m + 6 * secs.length ∧ WS (secs.foldl wSector cells) k
  | [], cells, m, h => ⟨m, by simp, h⟩
  | s :: r, cells, m, h => by
    obtain ⟨k, hk, h1⟩ := h.sector s
    obtain ⟨k', hk', h2⟩ := WS.sectors r h1
    refine ⟨k', ?_, h2⟩
    rw [List.length_cons]
    omega
theorem WS.nil : WS [] 0 := ⟨(by intro x hx; cases hx), rfl, rfl, .inr ⟨rfl, Nat.zero_le _⟩, rfl⟩
theorem track_ws (secs : List SecD) : ∃ k, k ≤ 6 * secs.length ∧ WS (trackCells secs) k := by
  unfold trackCells
  obtain ⟨k, hk, h⟩ := WS.sectors secs (WS.nil.plain (List.replicate 10 78))
  exact ⟨k, by omega, h.plain _⟩
end KW
end

section
set_option Elab.async false
set_option linter.all false
set_option maxRecDepth 100000
set_option maxHeartbeats 4000000
/-! The mathematics: weak cells add no mark; the marks are few. -/
namespace KW
open PySem PySem.Spec PyProof.Rows L2 KR
/-- a one, three zeros, a one -/
def Pat (l : List Int) (e : Nat) : Prop := l[e]? = some 1 ∧ l[e + 1]? = some 0 ∧ l[e + 2]? = some 0 ∧ l[e + 3]? = some 0 ∧ l[e + 4]? = some 1
/-- a list of cells whose ones and fourfold patterns are tame, against l0 -/
structure Tame (l0 l : List Int) : Prop where
  bits : Bits l
  no4 : No4 l
  pat : ∀ e, Pat l e → Pat l0 e
theorem set_some {l : List Int} {a e : Nat} {x : Int} (h : (l.set a 1)[e]? = some x) (hx : x ≠ 1) : l[e]? = some x := by
  by_cases hae : a = e
  · subst hae
    rw [List.getElem?_set_self'] at h
    cases hl : l[a]? with
    | none => rw [hl] at h; cases h
    | some y =>
      rw [hl] at h
      exact absurd (Option.some.inj h).symm hx
  · rwa [List.getElem?_set_ne hae] at h
theorem getD_zero {l : List Int} {i : Nat} (hi : i < l.length) (h : l.getD i 0 = 0) : l[i]? = some 0 := by
  rw [List.getD_eq_getElem?_getD, List.getElem?_eq_getElem hi] at h
  rw [List.getElem?_eq_getElem hi]
  exact congrArg some h
theorem Tame.step {l0 l : List Int} (t : Tame l0 l) (pl num : Int) (i : Nat) : Tame l0 (weakStep pl num l i) := by
  unfold weakStep
  split
  · next hc =>
    obtain ⟨h1, h2, _, h4, h5, h6⟩ := hc
    obtain ⟨a, ha⟩ : ∃ a : Nat, pl + (i : Int) = ((a + 1 : Nat) : Int) := ⟨(pl + i - 1).toNat, by omega⟩
    have e1 : (pl + (i : Int) - 1).toNat = a := by omega
    have e2 : (pl + (i : Int)).toNat = a + 1 := by omega
    have e3 : (pl + (i : Int) + 1).toNat = a + 2 := by omega
    rw [e1] at h4
    rw [e2] at h5 ⊢
    rw [e3] at h6
    have z0 := getD_zero (i := a) (by omega) h4
    have z1 := getD_zero (i := a + 1) (by omega) h5
    have z2 := getD_zero (i := a + 2) (by omega) h6
    refine ⟨fun x hx => ?_, fun e he => ?_, fun e he => t.pat e ?_⟩
    · rcases List.mem_or_eq_of_mem_set hx with hx | rfl
      · exact t.bits x hx
      · exact .inr rfl
    · exact t.no4 e ⟨set_some he.1 (by decide), set_some he.2.1 (by decide), set_some he.2.2.1 (by decide), set_some he.2.2.2 (by decide)⟩
    · obtain ⟨p0, p1, p2, p3, p4⟩ := he
      have q1 := set_some p1 (by decide)
      have q2 := set_some p2 (by decide)
      have q3 := set_some p3 (by decide)
      have ne1 : a + 1 ≠ e := by
        rintro rfl
        exact t.no4 a ⟨z0, z1, q1, q2⟩
      have ne2 : a + 1 ≠ e + 4 := by
        intro h
        have ea : a = e + 3 := by omega
        subst ea
        exact t.no4 (e + 1) ⟨q1, q2, q3, z1⟩
      rw [List.getElem?_set_ne ne1] at p0
      rw [List.getElem?_set_ne ne2] at p4
      exact ⟨p0, q1, q2, q3, p4⟩
  · exact t
theorem Tame.steps {l0 : List Int} (pl num : Int) : ∀ (is : List Nat) {l : List Int}, Tame l0 l → Tame l0 (is.foldl (weakStep pl num) l)
  | [], _, t => t
  | i :: is, l, t => Tame.steps pl num is (t.step pl num i)
theorem Tame.weak {l0 l : List Int} (t : Tame l0 l) (pl cnt num : Int) : Tame l0 (weakened l pl cnt num) := t.steps pl num _
theorem Tame.prot {l0 : List Int} (num : Int) : ∀ (runs : List (Int × Int)) {l : List Int}, Tame l0 l → Tame l0 (runs.foldl (protStep num) l)
  | [], _, t => t
  | r :: runs, l, t => Tame.prot num runs (t.weak _ _ _)
theorem track_tame (secs : List SecD) : Tame (trackCells secs) (trackCells secs) := by
  obtain ⟨k, _, h⟩ := track_ws secs
  exact ⟨h.bits, fun e he => n4_no4 e 0 _ h.n he, fun e p => p⟩
theorem prot_tame (secs : List SecD) (runs : List (Int × Int)) (num : Int) : Tame (trackCells secs) (protCells secs runs num) := (track_tame secs).prot num runs
/-! ### marks -/
def MarkAt (cells : List Int) (m : Nat) : Prop := m + 48 ≤ cells.length ∧ Builtin.Str.subAt (textOf cells) (textOf vals_THREE_MARKS) m = true
theorem bitCode_inj {a b : Int} (ha : a = 0 ∨ a = 1) (hb : b = 0 ∨ b = 1) (h : bitCode a = bitCode b) : a = b := by
  rcases ha with rfl | rfl <;> rcases hb with rfl | rfl <;> first | rfl | exact absurd h (by decide)
theorem code_list : ∀ {x y : List Int}, Bits x → Bits y → x.map bitCode = y.map bitCode → x = y
  | [], [], _, _, _ => rfl
  | [], _ :: _, _, _, h => by simp at h
  | _ :: _, [], _, _, h => by simp at h
  | a :: x, b :: y, ha, hb, h => by
    rw [List.map_cons, List.map_cons] at h
    injection h with h1 h2
    rw [bitCode_inj (ha a (List.mem_cons_self ..)) (hb b (List.mem_cons_self ..)) h1, code_list (fun z hz => ha z (List.mem_cons_of_mem _ hz)) (fun z hz => hb z (List.mem_cons_of_mem _ hz)) h2]
theorem three_bits : Bits vals_THREE_MARKS := by
  unfold Bits
  decide
theorem mark_cells {cells : List Int} {m : Nat} (hb : Bits cells) (h : MarkAt cells m) : (cells.drop m).take 48 = vals_THREE_MARKS := by
  obtain ⟨h1, h2⟩ := h
  unfold Builtin.Str.subAt at h2
  have h3 := eq_of_beq h2
  have h4 := congrArg Array.toList h3
  rw [Array.toList_extract] at h4
  have e1 : (textOf cells).cps.toList = cells.map bitCode := rfl
  have e2 : (textOf vals_THREE_MARKS).cps.toList = vals_THREE_MARKS.map bitCode := rfl
  have e3 : (textOf vals_THREE_MARKS).length = 48 := by rw [textOf_len]; rfl
  rw [e1, e2, e3, List.extract_eq_drop_take] at h4
  rw [show m + 48 - m = 48 by omega, ← List.map_drop, ← List.map_take] at h4
  exact code_list (fun x hx => hb x (List.mem_of_mem_drop (List.mem_of_mem_take hx))) three_bits h4
theorem mark_get {cells : List Int} {m : Nat} (hb : Bits cells) (h : MarkAt cells m) (j : Nat) (hj : j < 48) : cells[m + j]? = vals_THREE_MARKS[j]? := by
  rw [← mark_cells hb h, List.getElem?_take_of_lt hj, List.getElem?_drop]
/-- the pair of the missing clock of a mark -/
def evenOf (m : Nat) : Nat := if m % 2 = 0 then m + 8 else m + 1
theorem mark_pat {cells : List Int} {m : Nat} (hb : Bits cells) (h : MarkAt cells m) : Pat cells (evenOf m) := by
  unfold evenOf
  split
  · exact ⟨mark_get hb h 8 (by decide), mark_get hb h 9 (by decide), mark_get hb h 10 (by decide), mark_get hb h 11 (by decide), mark_get hb h 12 (by decide)⟩
  · exact ⟨mark_get hb h 1 (by decide), mark_get hb h 2 (by decide), mark_get hb h 3 (by decide), mark_get hb h 4 (by decide), mark_get hb h 5 (by decide)⟩
theorem evenOf_even (m : Nat) : evenOf m % 2 = 0 := by
  unfold evenOf
  split <;> omega
theorem pat_miss {l : List Int} {e : Nat} (he : e % 2 = 0) (h : Pat l e) : missAt 0 l (e / 2 + 1) = true := by
  obtain ⟨_, h1, h2, h3, _⟩ := h
  have e1 : 2 * (e / 2) = e := by omega
  refine miss_get (e / 2) l 0 ?_ ?_ ?_
  · rw [e1]; exact h1
  · rw [e1]; exact h2
  · rw [e1]; exact h3
/-- what the walk over the marks gives -/
def Marks (cells : List Int) (lo : Int) (L : List Int) : Prop := L.Pairwise (fun a b => a + 48 ≤ b) ∧ ∀ m ∈ L, lo ≤ m ∧ 0 ≤ m ∧ MarkAt cells m.toNat
theorem markGo_marks (cells : List Int) : ∀ (n : Nat) (at' : Int), (at' = -1 ∨ (0 ≤ at' ∧ at' + 48 ≤ cells.length ∧ Builtin.Str.subAt (textOf cells) (textOf vals_THREE_MARKS) at'.toNat = true)) → Marks cells at' (markGo (textOf cells) (textOf vals_THREE_MARKS) n at')
  | 0, _, _ => ⟨.nil, fun m hm => by cases hm⟩
  | n + 1, at', h => by
    show Marks cells at' (if at' < 0 then [] else at' :: markGo (textOf cells) (textOf vals_THREE_MARKS) n (Txt.find3 (textOf cells) (textOf vals_THREE_MARKS) (at' + 48)))
    split
    · exact ⟨.nil, fun m hm => by cases hm⟩
    · next hneg =>
      have h' : 0 ≤ at' ∧ at' + 48 ≤ cells.length ∧ Builtin.Str.subAt (textOf cells) (textOf vals_THREE_MARKS) at'.toNat = true := by
        rcases h with rfl | h
        · exact absurd (by decide) hneg
        · exact h
      have hw : (textOf vals_THREE_MARKS).length = 48 := by rw [textOf_len]; rfl
      have hf := find3_ok cells (textOf vals_THREE_MARKS) hw (at' := at' + 48) (by omega)
      have hnext : Marks cells (Txt.find3 (textOf cells) (textOf vals_THREE_MARKS) (at' + 48)) (markGo (textOf cells) (textOf vals_THREE_MARKS) n (Txt.find3 (textOf cells) (textOf vals_THREE_MARKS) (at' + 48))) := markGo_marks cells n _ (by
        rcases hf with e | ⟨g1, g2, g3⟩
        · exact .inl e
        · exact .inr ⟨by omega, g2, g3⟩)
      have hge : ∀ m ∈ markGo (textOf cells) (textOf vals_THREE_MARKS) n (Txt.find3 (textOf cells) (textOf vals_THREE_MARKS) (at' + 48)), at' + 48 ≤ m := fun m hm => by
        rcases hf with e | ⟨g1, _, _⟩
        · rw [e] at hm
          cases n with
          | zero => cases hm
          | succ n =>
            have hm' : m ∈ (if (-1 : Int) < 0 then [] else _) := hm
            rw [if_pos (by decide)] at hm'
            cases hm'
        · have := (hnext.2 m hm).1
          omega
      refine ⟨List.pairwise_cons.mpr ⟨hge, hnext.1⟩, fun m hm => ?_⟩
      rcases List.mem_cons.mp hm with rfl | hm
      · refine ⟨Int.le_refl _, h'.1, ?_, h'.2.2⟩
        omega
      · have h1 := hge m hm
        have h2 := hnext.2 m hm
        exact ⟨by omega, h2.2.1, h2.2.2⟩
theorem marks_few {secs : List SecD} {cells : List Int} (t : Tame (trackCells secs) cells) : (markPlaces cells).length ≤ 6 * secs.length := by
  obtain ⟨k, hk, ws⟩ := track_ws secs
  have hw : (textOf vals_THREE_MARKS).length = 48 := by rw [textOf_len]; rfl
  have hm := markGo_marks cells (cells.length + 1) _ (find_ok cells (textOf vals_THREE_MARKS) hw)
  have e : markPlaces cells = markGo (textOf cells) (textOf vals_THREE_MARKS) (cells.length + 1) (Txt.find (textOf cells) (textOf vals_THREE_MARKS)) := rfl
  rw [← e] at hm
  have h1 := miss_count (trackCells secs) 0 ((markPlaces cells).map fun m => evenOf m.toNat / 2 + 1) ?_ ?_
  · rw [List.length_map, ws.miss] at h1
    omega
  · rw [List.pairwise_map]
    refine List.Pairwise.imp_of_mem (fun {x y} hx hy hle => ?_) hm.1
    have hx' := (hm.2 x hx).2.1
    unfold evenOf
    split <;> split <;> omega
  · intro j hj
    obtain ⟨m, hmm, rfl⟩ := List.mem_map.mp hj
    exact pat_miss (evenOf_even _) (t.pat _ (mark_pat t.bits (hm.2 m hmm).2.2))
theorem found_few {secs : List SecD} {cells : List Int} (t : Tame (trackCells secs) cells) : (foundSectors cells).length ≤ 6 * secs.length := by
  have h1 : (foundSectors cells).length ≤ 0 + (markPlaces cells).length := look_all_len cells (markPlaces cells) ⟨[], false, 0⟩
  have h2 := marks_few t
  omega
theorem prot_length (secs : List SecD) (runs : List (Int × Int)) (num : Int) : (protCells secs runs num).length = (trackCells secs).length := prot_len _ _ _
end KW
end

section
set_option Elab.async false
set_option linter.all false
set_option maxRecDepth 100000
set_option maxHeartbeats 4000000
/-! The plain law of the plan's lists. -/
namespace KW
open PySem PySem.Spec PyProof.Rows L2 KR
/-- the lists of cells -/
def listsOf (secs : List SecD) (runs : List (Int × Int)) (m : Nat) : List (List Int) := (List.range m).map fun (i : Nat) => protCells secs runs (i : Int)
def readsOf (lists : List (List Int)) : List RdD := lists.map fun c => fluxOf c 40
structure Planned (secs : List SecD) (runs : List (Int × Int)) (m : Nat) : Prop where
  secs2 : secs.length ≤ 2
  ok : ∀ s ∈ secs, SecOk s
  m1 : 1 ≤ m
  m3 : m ≤ 3
section
variable {secs : List SecD} {runs : List (Int × Int)} {m : Nat}
theorem track_short (h : Planned secs runs m) : (trackCells secs).length ≤ 2080 := by
  unfold trackCells
  rw [wPlain_len]
  have h1 := track_len secs (wPlain [] (List.replicate 10 78)) h.ok
  rw [start_len] at h1
  have h2 := h.secs2
  have : ([] : List Int).length = 0 := rfl
  omega
theorem lists_mem (h : Planned secs runs m) : ∀ l ∈ listsOf secs runs m, Tame (trackCells secs) l ∧ l.length = (trackCells secs).length := fun l hl => by
  obtain ⟨i, _, rfl⟩ := List.mem_map.mp hl
  exact ⟨prot_tame _ _ _, prot_length _ _ _⟩
theorem lists_len : (listsOf secs runs m).length = m := by
  unfold listsOf
  rw [List.length_map, List.length_range]
theorem lists_even (h : Planned secs runs m) : Even (trackCells secs).length (listsOf secs runs m) := by
  refine ⟨?_, ?_, fun l hl => (lists_mem h l hl).2⟩
  · rw [lists_len]
    exact h.m1
  · rw [lists_len]
    have := h.m3
    omega
theorem back_lists (h : Planned secs runs m) : (readsOf (listsOf secs runs m)).map (fun r => fixedCells r 40) = listsOf secs runs m := by
  unfold readsOf
  rw [List.map_map]
  have e : ∀ l ∈ listsOf secs runs m, ((fun r => fixedCells r 40) ∘ fun c => fluxOf c 40) l = id l := fun l hl => flux_back (lists_mem h l hl).1.bits
  rw [List.map_congr_left e, List.map_id]
theorem reads_len : (readsOf (listsOf secs runs m)).length = m := by
  unfold readsOf
  rw [List.length_map, lists_len]
theorem reads_few (h : Planned secs runs m) : Reads (readsOf (listsOf secs runs m)) := by
  refine ⟨by rw [reads_len]; exact h.m1, by rw [reads_len]; have := h.m3; omega, fun r hr => ?_⟩
  obtain ⟨l, hl, rfl⟩ := List.mem_map.mp hr
  refine flux_ok ?_
  rw [(lists_mem h l hl).2]
  have := track_short h
  omega
theorem reads_rds (h : Planned secs runs m) : RdsOk (readsOf (listsOf secs runs m)) 40 := by
  refine ⟨by rw [reads_len]; have := h.m3; omega, fun r hr => ?_⟩
  have hf := (reads_few h).2.2 r hr
  obtain ⟨l, hl, rfl⟩ := List.mem_map.mp hr
  obtain ⟨t, hlen⟩ := lists_mem h l hl
  rw [flux_back t.bits]
  refine ⟨hf.1.2.1, ?_, t.bits⟩
  rw [hlen]
  have := track_short h
  omega
theorem few64 (h : Planned secs runs m) : (goodSectors (foundIn (readsOf (listsOf secs runs m)) 40)).flatten.length < 64 := by
  have h1 : ∀ row ∈ goodSectors (foundIn (readsOf (listsOf secs runs m)) 40), row.length ≤ 12 := fun row hrow => by
    obtain ⟨r0, hr0, rfl⟩ := List.mem_map.mp hrow
    obtain ⟨rd, hrd, rfl⟩ := List.mem_map.mp hr0
    obtain ⟨l, hl, rfl⟩ := List.mem_map.mp hrd
    obtain ⟨t, _⟩ := lists_mem h l hl
    rw [flux_back t.bits]
    refine Nat.le_trans (List.length_filter_le _ _) ?_
    have h2 := found_few t
    have h3 := h.secs2
    omega
  have h2 := flatten_le 12 _ h1
  have h3 : (goodSectors (foundIn (readsOf (listsOf secs runs m)) 40)).length ≤ 3 := by
    unfold goodSectors foundIn
    rw [List.length_map, List.length_map, reads_len]
    exact h.m3
  omega
end
def isWeak : FeD → Bool
  | .weak _ _ => true
  | _ => false
def feHead : FeD → Str
  | .weak _ _ => "weak"
  | .doub _ _ => "doubled"
  | .wrong _ => "wrong data"
  | .nodata _ => "no data"
  | .long _ => "long"
  | .mixed => "mixed sizes"
  | .odd _ => "odd address"
theorem feV_head (t : Addr) (f : FeD) : (feV t f)[0]? = some (.str (feHead f)) := by cases f <;> rfl
theorem head_weak (f : FeD) : decide (V.str (feHead f) = V.str "weak") = isWeak f := by
  cases f with
  | weak _ _ =>
    show decide (V.str (Str.ofString "weak") = V.str (Str.ofString "weak")) = true
    decide +kernel
  | doub _ _ =>
    show decide (V.str (Str.ofString "doubled") = V.str (Str.ofString "weak")) = false
    decide +kernel
  | wrong _ =>
    show decide (V.str (Str.ofString "wrong data") = V.str (Str.ofString "weak")) = false
    decide +kernel
  | nodata _ =>
    show decide (V.str (Str.ofString "no data") = V.str (Str.ofString "weak")) = false
    decide +kernel
  | long _ =>
    show decide (V.str (Str.ofString "long") = V.str (Str.ofString "weak")) = false
    decide +kernel
  | mixed =>
    show decide (V.str (Str.ofString "mixed sizes") = V.str (Str.ofString "weak")) = false
    decide +kernel
  | odd _ =>
    show decide (V.str (Str.ofString "odd address") = V.str (Str.ofString "weak")) = false
    decide +kernel
theorem filter_none {α : Type} (F : α → FeD) (h : ∀ a, isWeak (F a) = false) (l : List α) : (l.map F).filter isWeak = [] := by
  rw [List.filter_eq_nil_iff]
  intro f hf
  obtain ⟨a, _, rfl⟩ := List.mem_map.mp hf
  rw [h a]
  decide
theorem feats_weak (place : List Int) (rows : List (List FdD)) (rs : List (Int × Int)) (n : Nat) (wanted : Int) (as : List (List Int)) : (featsOf place rows rs n wanted as).filter isWeak = rs.map fun r => .weak r.1 r.2 := by
  unfold featsOf
  rw [List.filter_append, List.filter_append, List.filter_append, List.filter_append, List.filter_append, List.filter_append]
  rw [filter_none (fun a => FeD.doub a (doubledOf rows a)) (fun _ => rfl), filter_none FeD.wrong (fun _ => rfl), filter_none FeD.nodata (fun _ => rfl), filter_none FeD.odd (fun _ => rfl)]
  have e1 : ∀ b : Bool, (if b = true then [FeD.long (n : Int)] else []).filter isWeak = [] := fun b => by cases b <;> rfl
  have e2 : ∀ b : Bool, (if b = true then [FeD.mixed] else []).filter isWeak = [] := fun b => by cases b <;> rfl
  rw [e1, e2]
  have e3 : (rs.map fun r => FeD.weak r.1 r.2).filter isWeak = rs.map fun r => FeD.weak r.1 r.2 := by
    rw [List.filter_eq_self]
    intro f hf
    obtain ⟨r, _, rfl⟩ := List.mem_map.mp hf
    rfl
  rw [e3]
  simp
/-- two tuples of one feature are of the same make -/
theorem spd_ints {n : Nat} {H : Hp} : ∀ ns : List Int, Paired (fun u v => SPD (n + 1) u v H) (ns.map V.int) (ns.map V.int)
  | [] => .nil
  | _ :: ns => .cons (.inl ⟨_, rfl, rfl⟩) (spd_ints ns)
theorem spd_feat {f : FeD} {x y : V} {H : Hp} (hx : OFe f x H) (hy : OFe f y H) (hl : ∀ a, feAdr f = some a → a.length ≤ 10000000) : SPD 3 x y H := by
  obtain ⟨p, t, rfl, hp, ht⟩ := hx
  obtain ⟨q, u, rfl, hq, hu⟩ := hy
  have tup : ∀ a, feAdr f = some a → SPD 2 (.ref t) (.ref u) H := fun a ha => .inr (.inr (.inr ⟨t, u, _, _, rfl, rfl, ht a ha, hu a ha, by rw [List.length_map]; exact hl a ha, spd_ints a⟩))
  have str : ∀ s : Str, SPD 2 (.str s) (.str s) H := fun s => .inr (.inl ⟨s, rfl, rfl⟩)
  have int : ∀ i : Int, SPD 2 (.int i) (.int i) H := fun i => .inl ⟨i, rfl, rfl⟩
  refine .inr (.inr (.inr ⟨p, q, _, _, rfl, rfl, hp, hq, ?_, ?_⟩))
  · cases f <;> (show _ ≤ 10000000; simp [feV])
  · cases f with
    | weak s c => exact .cons (str _) (.cons (int _) (.cons (int _) .nil))
    | doub a n => exact .cons (str _) (.cons (tup a rfl) (.cons (int _) .nil))
    | wrong a => exact .cons (str _) (.cons (tup a rfl) .nil)
    | nodata a => exact .cons (str _) (.cons (tup a rfl) .nil)
    | long n => exact .cons (str _) (.cons (int _) .nil)
    | mixed => exact .cons (str _) .nil
    | odd a => exact .cons (str _) (.cons (tup a rfl) .nil)
theorem spd_feats {H : Hp} : ∀ {fs : List FeD} {xs ys : List V}, Paired (fun f y => OFe f y H) fs xs → Paired (fun f y => OFe f y H) fs ys → (∀ f ∈ fs, ∀ a, feAdr f = some a → a.length ≤ 10000000) → Paired (fun u v => SPD 3 u v H) xs ys
  | _, _, _, .nil, .nil, _ => .nil
  | _, _, _, .cons r t, .cons s u, h => .cons (spd_feat r s (h _ (List.mem_cons_self ..))) (spd_feats t u fun f hf => h f (List.mem_cons_of_mem _ hf))
/-- a feature's address is one of the addresses -/
theorem feats_adr {place : List Int} {rows : List (List FdD)} {rs : List (Int × Int)} {n : Nat} {wanted : Int} {as : List (List Int)} {f : FeD} (hf : f ∈ featsOf place rows rs n wanted as) {a : List Int} (ha : feAdr f = some a) : a ∈ as := by
  unfold featsOf at hf
  simp only [List.mem_append] at hf
  rcases hf with (((((hf | hf) | hf) | hf) | hf) | hf) | hf
  · obtain ⟨r, _, rfl⟩ := List.mem_map.mp hf
    cases ha
  · obtain ⟨b, hb, rfl⟩ := List.mem_map.mp hf
    cases ha
    exact (List.mem_filter.mp hb).1
  · obtain ⟨b, hb, rfl⟩ := List.mem_map.mp hf
    cases ha
    exact (List.mem_filter.mp hb).1
  · obtain ⟨b, hb, rfl⟩ := List.mem_map.mp hf
    cases ha
    exact (List.mem_filter.mp hb).1
  · split at hf
    · rw [List.mem_singleton] at hf
      subst hf
      cases ha
    · cases hf
  · split at hf
    · rw [List.mem_singleton] at hf
      subst hf
      cases ha
    · cases hf
  · obtain ⟨b, hb, rfl⟩ := List.mem_map.mp hf
    cases ha
    exact (List.mem_filter.mp hb).1
theorem feats_len {place : List Int} {rows : List (List FdD)} {n : Nat} {lists : List (List Int)} {wanted : Int} {as : List (List Int)} (hn : n ≤ 100000) (has : as.length < 64) : (featsOf place rows (weakRuns n lists) n wanted as).length ≤ 1000000 := by
  have hw : (weakRuns n lists).length ≤ 100000 := by
    have h1 := runs_len (weakPlaces n lists) []
    have h2 := weakPlaces_len n lists
    have h3 : ([] : List (Int × Int)).length = 0 := rfl
    unfold weakRuns
    omega
  unfold featsOf
  simp only [List.length_append, List.length_map]
  have f1 := List.length_filter_le (fun a => decide (1 < doubledOf rows a)) as
  have f2 := List.length_filter_le (fun a => isWrong rows a) as
  have f3 := List.length_filter_le (fun a => isEmpty rows a) as
  have f4 := List.length_filter_le (fun a => !decide (a.take 2 = place)) as
  have g1 : ∀ b : Bool, (if b = true then [FeD.long (n : Int)] else []).length ≤ 1 := fun b => by
    cases b
    · exact Nat.zero_le _
    · exact Nat.le_refl _
  have g2 : ∀ b : Bool, (if b = true then [FeD.mixed] else []).length ≤ 1 := fun b => by
    cases b
    · exact Nat.zero_le _
    · exact Nat.le_refl _
  have g1' := g1 (decide (wanted < (n : Int)))
  have g2' := g2 (decide ((1 : Int) < ((distinct (as.map fun a => a.getD 3 0) : Nat) : Int)))
  omega
theorem nodup_le {α : Type} [DecidableEq α] : ∀ {l m : List α}, l.Nodup → (∀ a ∈ l, a ∈ m) → l.length ≤ m.length
  | [], _, _, _ => Nat.zero_le _
  | a :: l, m, hn, h => by
    rw [List.nodup_cons] at hn
    have ha := h a (List.mem_cons_self ..)
    have h1 := nodup_le (l := l) (m := m.erase a) hn.2 fun b hb => by
      have hne : b ≠ a := fun z => hn.1 (by rw [← z]; exact hb)
      exact (List.mem_erase_of_ne hne).mpr (h b (List.mem_cons_of_mem _ hb))
    rw [List.length_erase_of_mem ha] at h1
    have := List.length_pos_of_mem ha
    rw [List.length_cons]
    omega
end KW
end

section
set_option Elab.async false
set_option linter.all false
set_option maxRecDepth 100000
set_option maxHeartbeats 4000000
/-! the law. -/
namespace KW
open PySem PySem.Spec PyProof.Rows L2 KR
section
variable {P : Program} {w : World} {K : PySem.W.Frag} {mg : Str → Option Value} {base : Heap}
def sp_law (K : PySem.W.Frag) : Sp := fun vs H Q _ => ∃ (a : Addr) (ns : List Int), vs = [.ref a] ∧ SqL K H a (ns.map V.int) ∧ ∀ H', Q (.bl true) H'
theorem rows_but {p q0 : Addr} {ns0 : List Int} {H H' : Hp} {secs : List SecD} {y : V} (hp : OPool p q0 ns0 H) (b : But p H H') (h : ORow OPl secs y H) (hl : secs.length ≤ 2) : ORow OPl secs y H' := by
  obtain ⟨r, ys, rfl, hr, hpr⟩ := h
  have := Paired.length hpr
  exact ⟨r, ys, rfl, b _ _ (pool_refs hp hr (by omega)) hr, Paired.mapP hpr fun s y z => OPl.but hp b z⟩
theorem runs_but {p q0 : Addr} {ns0 : List Int} {H H' : Hp} {runs : List (Int × Int)} {y : V} (hp : OPool p q0 ns0 H) (b : But p H H') (h : ORow O2 runs y H) (hl : runs.length ≤ 2) : ORow O2 runs y H' := by
  obtain ⟨r, ys, rfl, hr, hpr⟩ := h
  have := Paired.length hpr
  refine ⟨r, ys, rfl, b _ _ (pool_refs hp hr (by omega)) hr, Paired.mapP hpr fun s y z => ?_⟩
  obtain ⟨t, e, ht⟩ := z
  exact ⟨t, e, b _ _ (pool_tup hp ht) ht⟩
abbrev N_law : List Str := ["_law_script", "_law_pool_here", "_law_sectors", "_law_runs", "_law_lists", "_law_reads", "_law_before", "_law_image", "_law_after", "_law_number", "_law_cells", "_law_one"]
theorem sc_law : FnScope N_law ["_law_script"] (defScope s_law) := ⟨rfl, rfl, rfl, by decide +kernel, rfl, by decide +kernel, by decide +kernel⟩
theorem ok_law (W : T K mg) : Ok P w K mg base (11) "law" ["_law_script"] (sp_law K) := by
  refine W.f_law.F.ok sc_law (fun vs H Q E h => ?_) (fun cdv A outer s H vs Q E hr h => ?_)
  · obtain ⟨a, ns, rfl, _⟩ := h
    rfl
  · obtain ⟨a, ns, rfl, hl, q⟩ := h
    have hu := hu_of hr
    obtain ⟨ds_protected_cells, v_protected_cells, b_protected_cells⟩ := W.f_protected_cells.b
    refine ⟨_, PSs.nox ((pss_cons
       (ps_set (i := 1) sc_law.nd rfl (Or.inl rfl) (pe_call (ok_law_pool W) (hr.mono (by decide)) (by rfl) W.f_law_pool.g W.f_law_pool.F.kp W.f_law_pool.b .nil pass0 (pa_cons (pv 0) pa_nil)))
       (pss_cons
       (ps_asg (pe_call (ok_law_plan W) (hr.mono (by decide)) (by rfl) W.f_law_plan.g W.f_law_plan.F.kp W.f_law_plan.b .nil pass0 (pa_cons (pv 1) pa_nil)) (pg_tup rfl (pgs_cons (pg_name (i := 2) sc_law.nd rfl (Or.inr rfl)) (pgs_cons (pg_name (i := 3) sc_law.nd rfl (Or.inr rfl)) pgs_nil))))
       (pss_cons
       (ps_setLc (i := 4) (own := [("_law_number", 9)]) rfl sc_law.nd rfl rfl (sw_true rfl rfl rfl (by decide +kernel)) (pi_range1 rfl W.n_range (pa_cons (pe_op op_add pe_int (pe_call (ok_law_draw W) (hr.mono (by decide)) (by rfl) W.f_law_draw.g W.f_law_draw.F.kp W.f_law_draw.b .nil pass0 (pa_cons (pv 1) (pa_cons pe_int pa_nil)))) pa_nil)) (blkOk_by (own := [("_law_number", 9)]) (N := N_law) (sc := defScope s_law) (by decide +kernel)) (fun _ _ _ _ _ => (pg_name (i := 9) sc_law.nd rfl (Or.inl rfl))) (fun _ _ _ _ _ => pts_nil) (fun _ _ _ _ _ => (pe_call (ok_protected_cells W) (hr.mono (by decide)) (by rfl) W.f_protected_cells.g W.f_protected_cells.F.kp b_protected_cells v_protected_cells pass0 (pa_cons (pe_call (ok_law_made W) (hr.mono (by decide)) (by rfl) W.f_law_made.g W.f_law_made.F.kp W.f_law_made.b .nil pass0 (pa_cons (pv 2) pa_nil)) (pa_cons (pv 3) (pa_cons (pv 9) pa_nil))))))
       (pss_cons
       (ps_setLc (i := 5) (own := [("_law_cells", 10)]) rfl sc_law.nd rfl rfl (sw_true rfl rfl rfl (by decide +kernel)) (pi_list (pv 4)) (blkOk_by (own := [("_law_cells", 10)]) (N := N_law) (sc := defScope s_law) (by decide +kernel)) (fun _ _ _ _ _ => (pg_name (i := 10) sc_law.nd rfl (Or.inl rfl))) (fun _ _ _ _ _ => pts_nil) (fun _ _ _ _ _ => (pe_call (ok_flux_of W) (hr.mono (by decide)) (by rfl) W.f_flux_of.g W.f_flux_of.F.kp W.f_flux_of.b .nil pass0 (pa_cons (pv 10) (pa_cons pe_int pa_nil)))))
       (pss_cons
       (ps_set (i := 6) sc_law.nd rfl (Or.inl rfl) (pe_call (ok_features W) (hr.mono (by decide)) (by rfl) W.f_features.g W.f_features.F.kp W.f_features.b .nil pass0 (pa_cons (pe_tup (pa_cons pe_int (pa_cons pe_int pa_nil))) (pa_cons (pv 5) (pa_cons pe_int (pa_cons pe_int pa_nil))))))
       (pss_cons
       (ps_set (i := 7) sc_law.nd rfl (Or.inl rfl) (pe_make W.c_Image.mk' (ok_Image_init W) (hr.mono (by decide)) (by rfl) W.c_Image.g W.f_Image_init.b .nil pass0 (pa_cons pe_int (pa_cons pe_str (pa_cons (pe_disp1 hu (pe_tup (pa_cons pe_int (pa_cons pe_int pa_nil))) (pv 5)) pa_nil)))))
       (pss_cons
       (ps_set (i := 8) sc_law.nd rfl (Or.inl rfl) (pe_ix ix_tup (pe_call (ok_read_image W) (hr.mono (by decide)) (by rfl) W.f_read_image.g W.f_read_image.F.kp W.f_read_image.b .nil pass0 (pa_cons (pe_call (ok_image_bytes W) (hr.mono (by decide)) (by rfl) W.f_image_bytes.g W.f_image_bytes.F.kp W.f_image_bytes.b .nil pass0 (pa_cons (pv 7) pa_nil)) pa_nil)) pe_int (fun _ _ => rfl)))
       (pss_cons
       (ps_if (PW.pt (pw_or (pt_cmpR (KR.op_neG (ok_Image_eq W) (hr.mono (by decide)) W.ne_Image W.ob_Image W.f_Image_eq.M.at_ W.f_Image_eq.M.fn W.f_Image_eq.b pass0) (pv 8) (pv 7) (nomark _)) (pw_or1 (pt_not (pt_val (pe_call (ok_law_same W 4) (hr.mono (by decide)) (by rfl) W.f_law_same.g W.f_law_same.F.kp W.f_law_same.b .nil pass0 (pa_cons (pe_call (ok_features W) (hr.mono (by decide)) (by rfl) W.f_features.g W.f_features.F.kp W.f_features.b .nil pass0 (pa_cons (pe_tup (pa_cons pe_int (pa_cons pe_int pa_nil))) (pa_cons (pe_meth (pv 8) W.c_Image.cl W.f_Image_reads.M (ok_Image_reads W) (hr.mono (by decide)) W.f_Image_reads.b .nil pass0 (pa_cons (pe_tup (pa_cons pe_int (pa_cons pe_int pa_nil))) pa_nil)) (pa_cons pe_int (pa_cons pe_int pa_nil))))) (pa_cons (pv 6) pa_nil)))))))) (pss_one
       (ps_ret pe_bl)) pss_nil)
       (pss_one
       (ps_ret (pe_or (pe_call (ok_law_same W 4) (hr.mono (by decide)) (by rfl) W.f_law_same.g W.f_law_same.F.kp W.f_law_same.b .nil pass0 (pa_cons (pe_lc (own := [("_law_one", 11)]) rfl sc_law.nd (pi_list (pv 6)) (blkOk_by (own := [("_law_one", 11)]) (N := N_law) (sc := defScope s_law) (by decide +kernel)) (fun _ _ _ _ _ => (pg_name (i := 11) sc_law.nd rfl (Or.inl rfl))) (fun _ _ _ _ _ => (pts_one (pt_cmpR op_eq (pe_ix (ix_tupK (K := K) rfl) (pv 11) pe_int (fun _ _ => rfl)) pe_str (nomark _)))) (fun _ _ _ _ _ => (pv 11))) (pa_cons (pe_call (ok_law_weak_of W) (hr.mono (by decide)) (by rfl) W.f_law_weak_of.g W.f_law_weak_of.F.kp W.f_law_weak_of.b .nil pass0 (pa_cons (pv 4) pa_nil)) pa_nil))) (pe_one (pe_cmpR op_gt (pe_lenSet rfl (by rfl) W.n_len (by rfl) W.n_set (pe_lc (own := [("_law_cells", 10)]) rfl sc_law.nd (pi_list (pv 4)) (blkOk_by (own := [("_law_cells", 10)]) (N := N_law) (sc := defScope s_law) (by decide +kernel)) (fun _ _ _ _ _ => (pg_name (i := 10) sc_law.nd rfl (Or.inl rfl))) (fun _ _ _ _ _ => pts_nil) (fun _ _ _ _ _ => (pe_callB (call_len_seqK (K := K) rfl) (by rfl) W.n_len (by decide +kernel) (pa_cons (pv 10) pa_nil))))) pe_int (nomark _))))))))))))))), ?_⟩
    -- the pool, the plan
    refine ⟨_, rfl, a, ns, rfl, hl, fun H1 p q0 s1 np nq pl1 => ?_⟩
    refine ⟨_, rfl, p, q0, ns, rfl, pl1, fun H2 r secs runs y z b2 pl2 hr2 hsec hruns hs2 hsok hrok hr2' => ?_⟩
    refine ⟨r, _, rfl, SqT.of hr2, rfl, _, _, rfl, _, _, rfl, rfl, ?_⟩
    -- the lists
    refine ⟨_, rfl, p, q0, ns, 2, rfl, pl2, by decide, by decide, fun H3 n b3 pl3 n0 n2 => ⟨_, _, rfl, rfl, _, rfl, by omega, by omega, fun D nD => ?_⟩⟩
    obtain ⟨m, hm⟩ : ∃ m, m = (2 + n).toNat := ⟨_, rfl⟩
    have hm2 : 2 ≤ m ∧ m ≤ 3 := by omega
    have hpn : Planned secs runs m := ⟨hs2, hsok, by omega, hm2.2⟩
    have hsec3 := rows_but pl2 b3 hsec hs2
    have hrun3 := runs_but pl2 b3 hruns hr2'
    refine lc_rng (n := _) OLst yes (fun i => protCells secs runs (i : Int)) mono_OLst (by show (2 + n).toNat ≤ 16777216; omega) nD (fun i H4 hi s4 hn k nk hk _ => ?_) fun H4 N ls s4 s4' nN hD hls => ?_
    · refine ⟨rfl, _, rfl, y, secs, rfl, mono_ORow mono_OPl _ _ _ _ s4 hsec3, by omega, fun H5 y5 s5 ho5 => ?_⟩
      refine ⟨_, rfl, _, rfl, y5, secs, z, runs, 0 + (i : Int), rfl, ho5, mono_ORow mono_O2 _ _ _ _ (s4.trans s5) hrun3, by omega, hsok, hrok, fun H6 c s6 nc hc => ?_⟩
      refine hk rfl _ _ (s5.trans s6) ⟨c, rfl, ?_⟩
      have hcD : c ≠ D := fun z => hn (s5.free (by rw [← z]; exact nc))
      rw [del_ne hcD, hc, Int.zero_add]
    rw [filter_yes, ← hm] at hls
    have s44 := s4.trans s4'
    have hlists : ORow OLst (listsOf secs runs m) (.ref D) H4 := ⟨D, ls, rfl, hD, Paired.mapP hls fun e y z => mono_OLst _ _ _ _ s4' z⟩
    have hev := lists_even hpn
    have hbk := back_lists hpn
    have hfew := reads_few hpn
    have hrds := reads_rds hpn
    have h64 := few64 hpn
    have hga := good_adr hrds
    have hts := track_short hpn
    -- the reads
    have hll : (listsOf secs runs m).length ≤ 3 := by rw [lists_len]; omega
    refine ⟨_, rfl, _, rfl, ⟨_, SqL.of hD⟩, fun D5 nD5 => ?_⟩
    refine lcR_new OLst mono_OLst (OReadK K) mono_ORead (listsOf secs runs m) (fun c => fluxOf c 40) (SqL.of hD) (Paired.mapP hls fun e y z => mono_OLst _ _ _ _ s4' z) (by show _ ≤ 16777216; omega) nD5 (fun l x H5 k hlm s5 ho hk => ?_) fun H5 s5 hD5 => ?_
    · obtain ⟨b, rfl, hb⟩ := ho
      have hlen := (lists_mem hpn l hlm).2
      exact ⟨rfl, _, rfl, b, l, 40, rfl, SqL.of hb, by decide, by decide, by omega, (flux_ok (by omega)).1, fun H6 y6 s6 ho6 => hk _ _ s6 ho6⟩
    have hreads : ORow (OReadK K) (readsOf (listsOf secs runs m)) (.ref D5) H5 := mono_ORow mono_ORead _ _ _ _ fresh_sub hD5
    have hlists5 := mono_ORow mono_OLst _ _ _ _ s5 hlists
    generalize hrd : readsOf (listsOf secs runs m) = reads at hreads hbk hfew hrds h64 hga
    -- the features before
    refine ⟨(by show 2 ≤ sizeLine; decide), fun t6 nt6 => ?_⟩
    have s6 := Same.new (o := .tup [.int 2, .int 1]) nt6
    refine ⟨_, rfl, t6, [2, 1], .ref D5, reads, 40, 1000, (trackCells secs).length, rfl, upd_same, mono_ORow mono_ORead _ _ _ _ s6 hreads, by decide, by decide, hrds, by rw [hbk]; exact hev, by omega, h64, fun H7 p7 zs7 as7 s7 hp7 had7 hfe7 => ?_⟩
    rw [hbk] at hfe7
    have s57 := s6.trans s7
    have hreads7 := mono_ORow mono_ORead _ _ _ _ s57 hreads
    have hlists7 := mono_ORow mono_OLst _ _ _ _ s57 hlists5
    have has7 : as7.length < 64 := by
      have h1 : as7.Nodup := had7.nd
      have h2 : ∀ a ∈ as7, a ∈ (goodSectors (foundIn reads 40)).flatten.map (fun f => f.adr) := fun a ha => by
        obtain ⟨f, hf, e⟩ := (had7.mem a).mp ha
        exact List.mem_map.mpr ⟨f, hf, e⟩
      have h3 := nodup_le h1 h2
      rw [List.length_map] at h3
      omega
    -- the image
    refine fun pd npd => ⟨(by show 2 ≤ sizeLine; decide), fun t8 nt8 => ⟨_, rfl, Same.new nt8 _ _ upd_same, t8, key21, rfl, upd_same, ?_⟩⟩
    have npd' : H7 pd = none := npd
    have nt8' : t8 ≠ pd := by
      intro z
      rw [z, upd_same] at nt8
      cases nt8
    have s8 : Same H7 (upd (upd (upd H7 pd (.dT [])) t8 (.tup [.int 2, .int 1])) pd (.dT [(key21, .ref D5)])) := Same.mut ((Same.new npd').trans (Same.new nt8)) npd'
    have hpd8 : upd (upd (upd H7 pd (.dT [])) t8 (.tup [.int 2, .int 1])) pd (.dT [(key21, .ref D5)]) pd = some (.dT [(key21, .ref D5)]) := upd_same
    have hreads8 := mono_ORow mono_ORead _ _ _ _ s8 hreads7
    refine fun x9 dx9 nx9 ndx9 ne9 => ?_
    have nx9' : upd (upd (upd H7 pd (.dT [])) t8 (.tup [.int 2, .int 1])) pd (.dT [(key21, .ref D5)]) x9 = none := nx9
    have ndx9' : upd (upd (upd H7 pd (.dT [])) t8 (.tup [.int 2, .int 1])) pd (.dT [(key21, .ref D5)]) dx9 = none := ndx9
    show sp_Image_init K [.ref x9, .int 40, .str noteA, .ref pd] (upd (upd (upd (upd (upd H7 pd (.dT [])) t8 (.tup [.int 2, .int 1])) pd (.dT [(key21, .ref D5)])) dx9 (.own x9)) x9 (.ins (He.ga K "Image") dx9 [])) _ _
    revert s8 hpd8 hreads8 nx9' ndx9'
    generalize upd (upd (upd H7 pd (.dT [])) t8 (.tup [.int 2, .int 1])) pd (.dT [(key21, .ref D5)]) = H8
    intro s8 hpd8 hreads8 nx9' ndx9'
    have s9 : Same H8 (upd (upd H8 dx9 (.own x9)) x9 (.ins (He.ga K "Image") dx9 [])) := But.made But.refl nx9' ndx9'
    refine ⟨x9, dx9, pd, D5, reads, rfl, upd_same, s9 _ _ hpd8, mono_ORow mono_ORead _ _ _ _ s9 hreads8, hfew, fun H10 d10 b10 nd10 img10 => ⟨rfl, ?_⟩⟩
    have s10 : Same H8 H10 := But.made b10 nx9' ndx9'
    have s710 := s8.trans s10
    obtain ⟨dxi, rli, hxi, hdi, hri⟩ := id img10
    -- the image's bytes, read again
    refine ⟨_, rfl, x9, d10, reads, rfl, img10, hfew, fun H11 p11 s11 np11 hp11 => ?_⟩
    refine ⟨p11, reads, rfl, hp11, hfew, fun H12 r12 x12 d12 e12 s12 nd12 hr12 img12 => ⟨_, _, _, .ref x12, rfl, rfl, SqT.of hr12, rfl, ?_⟩⟩
    have s1012 := s11.trans s12
    have s712 := s710.trans s1012
    have img9 := img10.mono s1012
    obtain ⟨dx9', rl9, hx9, hd9, hr9⟩ := id img9
    obtain ⟨dx12, rl12, hx12, hd12, hrr12⟩ := id img12
    have hdd : d12 ≠ d10 := (ne_of_none (s11 _ _ hdi) nd12).symm
    -- the comparison
    refine ⟨_, rfl, _, rfl, x12, x9, dx12, dx9', _, _, rfl, rfl, hx12, hx9, ⟨reads, d12, d10, img12, img9, hdd⟩, fun H13 s13 => ⟨_, rfl, iteF ?_⟩⟩
    have s713 : Same H7 H13 := s712.trans s13
    refine ⟨(by show 2 ≤ sizeLine; decide), fun t14 nt14 => ?_⟩
    have s14 := Same.new (o := .tup [.int 2, .int 1]) nt14
    have img14 := (img12.mono s13).mono s14
    obtain ⟨dx14, rl14, hx14, hd14, hrr14⟩ := id img14
    refine ⟨_, rfl, _, _, _, rfl, hx14, rfl, (by show 2 ≤ sizeLine; decide), fun t15 nt15 => ?_⟩
    have s15 := Same.new (o := .tup [.int 2, .int 1]) nt15
    refine ⟨x12, d12, reads, t15, rfl, img14.mono s15, upd_same, fun H16 y16 s16 ho16 => ?_⟩
    refine ⟨t14, [2, 1], y16, reads, 40, 1000, (trackCells secs).length, rfl, (s15.trans s16) _ _ upd_same, ho16, by decide, by decide, hrds, by rw [hbk]; exact hev, by omega, h64, fun H17 p17 zs17 as17 s17 hp17 had17 hfe17 => ?_⟩
    rw [hbk] at hfe17
    have s717 : Same H7 H17 := s713.trans (s14.trans (s15.trans (s16.trans s17)))
    have eas : as17 = as7 := had17.uniq hga had7
    subst eas
    have hfe7' := Paired.mapP hfe7 fun e y z => mono_OFe _ _ _ _ s717 z
    have hadl : ∀ f ∈ featsOf [2, 1] (goodSectors (foundIn reads 40)) (weakRuns (trackCells secs).length (listsOf secs runs m)) (trackCells secs).length 1000 as17, ∀ a, feAdr f = some a → a.length ≤ 10000000 := fun f hf a ha => by
      obtain ⟨g, hg, e⟩ := (had17.mem a).mp (feats_adr hf ha)
      have := (hga g hg).1
      rw [e] at this
      omega
    have hfl := feats_len (place := [2, 1]) (rows := goodSectors (foundIn reads 40)) (n := (trackCells secs).length) (lists := listsOf secs runs m) (wanted := 1000) (as := as17) (by omega) has7
    have hz17 := Paired.length hfe17
    refine ⟨_, rfl, _, _, rfl, .inr (.inr (.inl ⟨p17, p7, _, _, rfl, rfl, hp17, s717 _ _ hp7, by omega, spd_feats hfe17 hfe7' hadl⟩)), _, rfl, iteF ?_⟩
    -- the weak runs
    have hlists17 := mono_ORow mono_OLst _ _ _ _ s717 hlists7
    refine ⟨_, rfl, _, rfl, ⟨_, SqL.of (s717 _ _ hp7)⟩, fun D18 nD18 => ?_⟩
    refine lcR_sel OFe mono_OFe _ isWeak (SqL.of (s717 _ _ hp7)) hfe7' (by show _ ≤ 16777216; omega) nD18 (fun f x H18 k nk hfm s18 hf hk hn' => ?_) fun H18 ws s18 hws hwp => ?_
    · obtain ⟨t, u, rfl, ht, _⟩ := hf
      refine ⟨rfl, _, rfl, _, _, _, .str (feHead f), rfl, rfl, SqT.of ht, atI_nat (j := 0) (feV_head u f), rfl, _, rfl, ?_⟩
      have ew : decide (V.str (feHead f) = V.str (Str.ofString "weak")) = isWeak f := head_weak f
      rw [ew]
      exact ite2 (fun hc => ⟨_, rfl, hk hc _ (Same.refl _)⟩) fun hc => hn' (eq_false_of_ne_true hc) _ (Same.refl _)
    rw [feats_weak, weak_law hev.1] at hwp
    refine ⟨_, rfl, .ref D, listsOf secs runs m, (trackCells secs).length, rfl, mono_ORow mono_OLst _ _ _ _ s18 hlists17, hev, by omega, fun H19 z19 s19 ho19 => ?_⟩
    obtain ⟨p19, zs19, rfl, hp19, hz19⟩ := ho19
    have hwl := Paired.length hwp
    have hlr : ((lawRuns (trackCells secs).length (listsOf secs runs m)).map fun r => FeD.weak r.1 r.2).length ≤ 100000 := by
      rw [List.length_map]
      have h1 := runs_len (lawPlaces (trackCells secs).length (listsOf secs runs m)) []
      have h2 := lawPlaces_len (trackCells secs).length (listsOf secs runs m)
      have h3 : ([] : List (Int × Int)).length = 0 := rfl
      unfold lawRuns
      omega
    refine ⟨_, _, rfl, .inr (.inr (.inl ⟨D18, p19, _, _, rfl, rfl, s19 _ _ hws, hp19, by omega, spd_feats (Paired.mapP hwp fun e y z => mono_OFe _ _ _ _ (s18.trans s19) z) hz19 (fun f hf a ha => by
      obtain ⟨r, _, rfl⟩ := List.mem_map.mp hf
      cases ha)⟩)), _, rfl, iteT (q _)⟩
end
end KW
end

section
set_option Elab.async false
set_option linter.all false
set_option maxRecDepth 100000
set_option maxHeartbeats 0
/-! The head: the facts into T, the row. -/
namespace KW
open PySem PySem.Spec PyProof.Rows L2 KR
section
variable {K : PySem.W.Frag} {h : Heap} {mg : Str → Option Value}
theorem has_Read_init (c : He.SaysD fa fn K) : Mt K "Read" "__init__" "Read.__init__" s_Read_init ["self", "intervals", "rest"] := by
  obtain ⟨fd, F⟩ := c.def_ 0 (d := d_Read_init) rfl
  have e := fd_eq F
  subst e
  have F' : FunD K "__init__" "Read.__init__" (defArgs s_Read_init) (defBody s_Read_init) (defScope s_Read_init) [] [] (He.ma K (He.ga K "Read") "__init__") (fdOf K ("Read", some "__init__")) := F
  exact ⟨F', He.meth_ok (c.fact 80 (f := .meth "Read" "__init__") rfl), F'.bindsN fun _ _ _ _ _ _ us hl => match us, hl with | [_, _, _], _ => rfl⟩
theorem has_Read_eq (c : He.SaysD fa fn K) : Mt K "Read" "__eq__" "Read.__eq__" s_Read_eq ["self", "other"] := by
  obtain ⟨fd, F⟩ := c.def_ 1 (d := d_Read_eq) rfl
  have e := fd_eq F
  subst e
  have F' : FunD K "__eq__" "Read.__eq__" (defArgs s_Read_eq) (defBody s_Read_eq) (defScope s_Read_eq) [] [] (He.ma K (He.ga K "Read") "__eq__") (fdOf K ("Read", some "__eq__")) := F
  exact ⟨F', He.meth_ok (c.fact 81 (f := .meth "Read" "__eq__") rfl), F'.bindsN fun _ _ _ _ _ _ us hl => match us, hl with | [_, _], _ => rfl⟩
theorem has_demand_cell (X : K.In h) (G : h.Ns mainGlobals mg) (c : He.SaysD fa fn K) : Fn K mg "demand_cell" s_demand_cell ["cell"] := by
  obtain ⟨fd, F⟩ := c.def_ 2 (d := d_demand_cell) rfl
  have e := fd_eq F
  subst e
  have F' : FunD K "demand_cell" "demand_cell" (defArgs s_demand_cell) (defBody s_demand_cell) (defScope s_demand_cell) [] [] (He.ga K "demand_cell") (fdOf K ("demand_cell", none)) := F
  exact ⟨F', He.glo_ok X G (c.fact 0 (f := .glo "demand_cell") rfl), F'.bindsN fun _ _ _ _ _ _ us hl => match us, hl with | [_], _ => rfl⟩
theorem has_flux_of (X : K.In h) (G : h.Ns mainGlobals mg) (c : He.SaysD fa fn K) : Fn K mg "flux_of" s_flux_of ["cells", "cell"] := by
  obtain ⟨fd, F⟩ := c.def_ 3 (d := d_flux_of) rfl
  have e := fd_eq F
  subst e
  have F' : FunD K "flux_of" "flux_of" (defArgs s_flux_of) (defBody s_flux_of) (defScope s_flux_of) [] [] (He.ga K "flux_of") (fdOf K ("flux_of", none)) := F
  exact ⟨F', He.glo_ok X G (c.fact 1 (f := .glo "flux_of") rfl), F'.bindsN fun _ _ _ _ _ _ us hl => match us, hl with | [_, _], _ => rfl⟩
theorem has_fixed_cells (X : K.In h) (G : h.Ns mainGlobals mg) (c : He.SaysD fa fn K) : Fn K mg "fixed_cells" s_fixed_cells ["read", "cell"] := by
  obtain ⟨fd, F⟩ := c.def_ 4 (d := d_fixed_cells) rfl
  have e := fd_eq F
  subst e
  have F' : FunD K "fixed_cells" "fixed_cells" (defArgs s_fixed_cells) (defBody s_fixed_cells) (defScope s_fixed_cells) [] [] (He.ga K "fixed_cells") (fdOf K ("fixed_cells", none)) := F
  exact ⟨F', He.glo_ok X G (c.fact 2 (f := .glo "fixed_cells") rfl), F'.bindsN fun _ _ _ _ _ _ us hl => match us, hl with | [_, _], _ => rfl⟩
theorem has_shortest (X : K.In h) (G : h.Ns mainGlobals mg) (c : He.SaysD fa fn K) : Fn K mg "shortest" s_shortest ["lists"] := by
  obtain ⟨fd, F⟩ := c.def_ 5 (d := d_shortest) rfl
  have e := fd_eq F
  subst e
  have F' : FunD K "shortest" "shortest" (defArgs s_shortest) (defBody s_shortest) (defScope s_shortest) [] [] (He.ga K "shortest") (fdOf K ("shortest", none)) := F
  exact ⟨F', He.glo_ok X G (c.fact 3 (f := .glo "shortest") rfl), F'.bindsN fun _ _ _ _ _ _ us hl => match us, hl with | [_], _ => rfl⟩
theorem has_weak_places (X : K.In h) (G : h.Ns mainGlobals mg) (c : He.SaysD fa fn K) : Fn K mg "weak_places" s_weak_places ["lists"] := by
  obtain ⟨fd, F⟩ := c.def_ 6 (d := d_weak_places) rfl
  have e := fd_eq F
  subst e
  have F' : FunD K "weak_places" "weak_places" (defArgs s_weak_places) (defBody s_weak_places) (defScope s_weak_places) [] [] (He.ga K "weak_places") (fdOf K ("weak_places", none)) := F
  exact ⟨F', He.glo_ok X G (c.fact 4 (f := .glo "weak_places") rfl), F'.bindsN fun _ _ _ _ _ _ us hl => match us, hl with | [_], _ => rfl⟩
theorem has_byte_bits (X : K.In h) (G : h.Ns mainGlobals mg) (c : He.SaysD fa fn K) : Fn K mg "byte_bits" s_byte_bits ["value"] := by
  obtain ⟨fd, F⟩ := c.def_ 7 (d := d_byte_bits) rfl
  have e := fd_eq F
  subst e
  have F' : FunD K "byte_bits" "byte_bits" (defArgs s_byte_bits) (defBody s_byte_bits) (defScope s_byte_bits) [] [] (He.ga K "byte_bits") (fdOf K ("byte_bits", none)) := F
  exact ⟨F', He.glo_ok X G (c.fact 5 (f := .glo "byte_bits") rfl), F'.bindsN fun _ _ _ _ _ _ us hl => match us, hl with | [_], _ => rfl⟩
theorem has_bits_byte (X : K.In h) (G : h.Ns mainGlobals mg) (c : He.SaysD fa fn K) : Fn K mg "bits_byte" s_bits_byte ["bits"] := by
  obtain ⟨fd, F⟩ := c.def_ 8 (d := d_bits_byte) rfl
  have e := fd_eq F
  subst e
  have F' : FunD K "bits_byte" "bits_byte" (defArgs s_bits_byte) (defBody s_bits_byte) (defScope s_bits_byte) [] [] (He.ga K "bits_byte") (fdOf K ("bits_byte", none)) := F
  exact ⟨F', He.glo_ok X G (c.fact 6 (f := .glo "bits_byte") rfl), F'.bindsN fun _ _ _ _ _ _ us hl => match us, hl with | [_], _ => rfl⟩
theorem has_exclusive (X : K.In h) (G : h.Ns mainGlobals mg) (c : He.SaysD fa fn K) : Fn K mg "exclusive" s_exclusive ["first", "second"] := by
  obtain ⟨fd, F⟩ := c.def_ 9 (d := d_exclusive) rfl
  have e := fd_eq F
  subst e
  have F' : FunD K "exclusive" "exclusive" (defArgs s_exclusive) (defBody s_exclusive) (defScope s_exclusive) [] [] (He.ga K "exclusive") (fdOf K ("exclusive", none)) := F
  exact ⟨F', He.glo_ok X G (c.fact 7 (f := .glo "exclusive") rfl), F'.bindsN fun _ _ _ _ _ _ us hl => match us, hl with | [_, _], _ => rfl⟩
theorem has_step (X : K.In h) (G : h.Ns mainGlobals mg) (c : He.SaysD fa fn K) : Fn K mg "step" s_step ["number", "value"] := by
  obtain ⟨fd, F⟩ := c.def_ 10 (d := d_step) rfl
  have e := fd_eq F
  subst e
  have F' : FunD K "step" "step" (defArgs s_step) (defBody s_step) (defScope s_step) [] [] (He.ga K "step") (fdOf K ("step", none)) := F
  exact ⟨F', He.glo_ok X G (c.fact 8 (f := .glo "step") rfl), F'.bindsN fun _ _ _ _ _ _ us hl => match us, hl with | [_, _], _ => rfl⟩
theorem has_crc (X : K.In h) (G : h.Ns mainGlobals mg) (c : He.SaysD fa fn K) : Fn K mg "crc" s_crc ["values"] := by
  obtain ⟨fd, F⟩ := c.def_ 11 (d := d_crc) rfl
  have e := fd_eq F
  subst e
  have F' : FunD K "crc" "crc" (defArgs s_crc) (defBody s_crc) (defScope s_crc) [] [] (He.ga K "crc") (fdOf K ("crc", none)) := F
  exact ⟨F', He.glo_ok X G (c.fact 9 (f := .glo "crc") rfl), F'.bindsN fun _ _ _ _ _ _ us hl => match us, hl with | [_], _ => rfl⟩
theorem has_two_bytes (X : K.In h) (G : h.Ns mainGlobals mg) (c : He.SaysD fa fn K) : Fn K mg "two_bytes" s_two_bytes ["number"] := by
  obtain ⟨fd, F⟩ := c.def_ 12 (d := d_two_bytes) rfl
  have e := fd_eq F
  subst e
  have F' : FunD K "two_bytes" "two_bytes" (defArgs s_two_bytes) (defBody s_two_bytes) (defScope s_two_bytes) [] [] (He.ga K "two_bytes") (fdOf K ("two_bytes", none)) := F
  exact ⟨F', He.glo_ok X G (c.fact 10 (f := .glo "two_bytes") rfl), F'.bindsN fun _ _ _ _ _ _ us hl => match us, hl with | [_], _ => rfl⟩
theorem has_all_bits (X : K.In h) (G : h.Ns mainGlobals mg) (c : He.SaysD fa fn K) : Fn K mg "all_bits" s_all_bits ["values"] := by
  obtain ⟨fd, F⟩ := c.def_ 13 (d := d_all_bits) rfl
  have e := fd_eq F
  subst e
  have F' : FunD K "all_bits" "all_bits" (defArgs s_all_bits) (defBody s_all_bits) (defScope s_all_bits) [] [] (He.ga K "all_bits") (fdOf K ("all_bits", none)) := F
  exact ⟨F', He.glo_ok X G (c.fact 11 (f := .glo "all_bits") rfl), F'.bindsN fun _ _ _ _ _ _ us hl => match us, hl with | [_], _ => rfl⟩
theorem has_whole_bytes (X : K.In h) (G : h.Ns mainGlobals mg) (c : He.SaysD fa fn K) : Fn K mg "whole_bytes" s_whole_bytes ["bits"] := by
  obtain ⟨fd, F⟩ := c.def_ 14 (d := d_whole_bytes) rfl
  have e := fd_eq F
  subst e
  have F' : FunD K "whole_bytes" "whole_bytes" (defArgs s_whole_bytes) (defBody s_whole_bytes) (defScope s_whole_bytes) [] [] (He.ga K "whole_bytes") (fdOf K ("whole_bytes", none)) := F
  exact ⟨F', He.glo_ok X G (c.fact 12 (f := .glo "whole_bytes") rfl), F'.bindsN fun _ _ _ _ _ _ us hl => match us, hl with | [_], _ => rfl⟩
theorem has_clock_for (X : K.In h) (G : h.Ns mainGlobals mg) (c : He.SaysD fa fn K) : Fn K mg "clock_for" s_clock_for ["before", "bit"] := by
  obtain ⟨fd, F⟩ := c.def_ 15 (d := d_clock_for) rfl
  have e := fd_eq F
  subst e
  have F' : FunD K "clock_for" "clock_for" (defArgs s_clock_for) (defBody s_clock_for) (defScope s_clock_for) [] [] (He.ga K "clock_for") (fdOf K ("clock_for", none)) := F
  exact ⟨F', He.glo_ok X G (c.fact 13 (f := .glo "clock_for") rfl), F'.bindsN fun _ _ _ _ _ _ us hl => match us, hl with | [_, _], _ => rfl⟩
theorem has_mfm_cells (X : K.In h) (G : h.Ns mainGlobals mg) (c : He.SaysD fa fn K) : FnK K mg "mfm_cells" s_mfm_cells ["values", "before"] 1 "before" (.int 0) := by
  obtain ⟨fd, F⟩ := c.def_ 16 (d := d_mfm_cells) rfl
  have e := fd_eq F
  subst e
  have F' : FunD K "mfm_cells" "mfm_cells" (defArgs s_mfm_cells) (defBody s_mfm_cells) (defScope s_mfm_cells) [] [("before", .int 0)] (He.ga K "mfm_cells") (fdOf K ("mfm_cells", none)) := F
  obtain ⟨mv, b⟩ := F'.kbinds0 (ps := ["values", "before"]) 1 ["before"] [] (fun us _ ws => us ++ ws) (List.cons_ne_nil _ _) (by intro q hq; cases hq) (fun r1 _ r3 => r1.append r3) (fun _ _ _ _ _ _ us mv ws hl hm hw => match us, mv, ws, hl, hm, hw with | [_], [], [_], _, _, _ => rfl)
  exact ⟨F', He.glo_ok X G (c.fact 14 (f := .glo "mfm_cells") rfl), F'.binds0 (ps := ["values", "before"]) 1 (List.cons_ne_nil _ _) rfl (fun _ _ _ _ _ _ us ks hl hk => match us, ks, hl, hk with | [_], [_], _, _ => ⟨_, _, _, _, _, _, rfl, rfl, rfl⟩), b⟩
theorem has_read_mfm (X : K.In h) (G : h.Ns mainGlobals mg) (c : He.SaysD fa fn K) : FnK K mg "read_mfm" s_read_mfm ["cells", "before"] 1 "before" (.int 0) := by
  obtain ⟨fd, F⟩ := c.def_ 17 (d := d_read_mfm) rfl
  have e := fd_eq F
  subst e
  have F' : FunD K "read_mfm" "read_mfm" (defArgs s_read_mfm) (defBody s_read_mfm) (defScope s_read_mfm) [] [("before", .int 0)] (He.ga K "read_mfm") (fdOf K ("read_mfm", none)) := F
  obtain ⟨mv, b⟩ := F'.kbinds0 (ps := ["cells", "before"]) 1 ["before"] [] (fun us _ ws => us ++ ws) (List.cons_ne_nil _ _) (by intro q hq; cases hq) (fun r1 _ r3 => r1.append r3) (fun _ _ _ _ _ _ us mv ws hl hm hw => match us, mv, ws, hl, hm, hw with | [_], [], [_], _, _, _ => rfl)
  exact ⟨F', He.glo_ok X G (c.fact 15 (f := .glo "read_mfm") rfl), F'.binds0 (ps := ["cells", "before"]) 1 (List.cons_ne_nil _ _) rfl (fun _ _ _ _ _ _ us ks hl hk => match us, ks, hl, hk with | [_], [_], _, _ => ⟨_, _, _, _, _, _, rfl, rfl, rfl⟩), b⟩
theorem has_Sector_init (c : He.SaysD fa fn K) : MtK K "Sector" "__init__" "Sector.__init__" s_Sector_init ["self", "address", "data", "address_wrong", "data_wrong"] 3 [("address_wrong", .bl false), ("data_wrong", .bl false)] := by
  obtain ⟨fd, F⟩ := c.def_ 18 (d := d_Sector_init) rfl
  have e := fd_eq F
  subst e
  have F' : FunD K "__init__" "Sector.__init__" (defArgs s_Sector_init) (defBody s_Sector_init) (defScope s_Sector_init) [] [("address_wrong", .bl false), ("data_wrong", .bl false)] (He.ma K (He.ga K "Sector") "__init__") (fdOf K ("Sector", some "__init__")) := F
  obtain ⟨mv, b⟩ := F'.kbinds0 (ps := ["self", "address", "data", "address_wrong", "data_wrong"]) 3 ["address_wrong", "data_wrong"] [] (fun us _ ws => us ++ ws) (List.cons_ne_nil _ _) (by intro q hq; cases hq) (fun r1 _ r3 => r1.append r3) (fun _ _ _ _ _ _ us mv ws hl hm hw => match us, mv, ws, hl, hm, hw with | [_, _, _], [], [_, _], _, _, _ => rfl)
  exact ⟨F', b⟩
theorem has_data_length (X : K.In h) (G : h.Ns mainGlobals mg) (c : He.SaysD fa fn K) : Fn K mg "data_length" s_data_length ["size"] := by
  obtain ⟨fd, F⟩ := c.def_ 19 (d := d_data_length) rfl
  have e := fd_eq F
  subst e
  have F' : FunD K "data_length" "data_length" (defArgs s_data_length) (defBody s_data_length) (defScope s_data_length) [] [] (He.ga K "data_length") (fdOf K ("data_length", none)) := F
  exact ⟨F', He.glo_ok X G (c.fact 16 (f := .glo "data_length") rfl), F'.bindsN fun _ _ _ _ _ _ us hl => match us, hl with | [_], _ => rfl⟩
theorem has_is_sector (X : K.In h) (G : h.Ns mainGlobals mg) (c : He.SaysD fa fn K) : Fn K mg "is_sector" s_is_sector ["sector"] := by
  obtain ⟨fd, F⟩ := c.def_ 20 (d := d_is_sector) rfl
  have e := fd_eq F
  subst e
  have F' : FunD K "is_sector" "is_sector" (defArgs s_is_sector) (defBody s_is_sector) (defScope s_is_sector) [] [] (He.ga K "is_sector") (fdOf K ("is_sector", none)) := F
  exact ⟨F', He.glo_ok X G (c.fact 17 (f := .glo "is_sector") rfl), F'.bindsN fun _ _ _ _ _ _ us hl => match us, hl with | [_], _ => rfl⟩
theorem has_demand_sectors (X : K.In h) (G : h.Ns mainGlobals mg) (c : He.SaysD fa fn K) : Fn K mg "demand_sectors" s_demand_sectors ["sectors"] := by
  obtain ⟨fd, F⟩ := c.def_ 21 (d := d_demand_sectors) rfl
  have e := fd_eq F
  subst e
  have F' : FunD K "demand_sectors" "demand_sectors" (defArgs s_demand_sectors) (defBody s_demand_sectors) (defScope s_demand_sectors) [] [] (He.ga K "demand_sectors") (fdOf K ("demand_sectors", none)) := F
  exact ⟨F', He.glo_ok X G (c.fact 18 (f := .glo "demand_sectors") rfl), F'.bindsN fun _ _ _ _ _ _ us hl => match us, hl with | [_], _ => rfl⟩
theorem has_sector_length (X : K.In h) (G : h.Ns mainGlobals mg) (c : He.SaysD fa fn K) : Fn K mg "sector_length" s_sector_length ["sector"] := by
  obtain ⟨fd, F⟩ := c.def_ 22 (d := d_sector_length) rfl
  have e := fd_eq F
  subst e
  have F' : FunD K "sector_length" "sector_length" (defArgs s_sector_length) (defBody s_sector_length) (defScope s_sector_length) [] [] (He.ga K "sector_length") (fdOf K ("sector_length", none)) := F
  exact ⟨F', He.glo_ok X G (c.fact 19 (f := .glo "sector_length") rfl), F'.bindsN fun _ _ _ _ _ _ us hl => match us, hl with | [_], _ => rfl⟩
theorem has_track_bytes (X : K.In h) (G : h.Ns mainGlobals mg) (c : He.SaysD fa fn K) : Fn K mg "track_bytes" s_track_bytes ["sectors"] := by
  obtain ⟨fd, F⟩ := c.def_ 23 (d := d_track_bytes) rfl
  have e := fd_eq F
  subst e
  have F' : FunD K "track_bytes" "track_bytes" (defArgs s_track_bytes) (defBody s_track_bytes) (defScope s_track_bytes) [] [] (He.ga K "track_bytes") (fdOf K ("track_bytes", none)) := F
  exact ⟨F', He.glo_ok X G (c.fact 20 (f := .glo "track_bytes") rfl), F'.bindsN fun _ _ _ _ _ _ us hl => match us, hl with | [_], _ => rfl⟩
theorem has_Writer_init (c : He.SaysD fa fn K) : Mt K "Writer" "__init__" "Writer.__init__" s_Writer_init ["self"] := by
  obtain ⟨fd, F⟩ := c.def_ 24 (d := d_Writer_init) rfl
  have e := fd_eq F
  subst e
  have F' : FunD K "__init__" "Writer.__init__" (defArgs s_Writer_init) (defBody s_Writer_init) (defScope s_Writer_init) [] [] (He.ma K (He.ga K "Writer") "__init__") (fdOf K ("Writer", some "__init__")) := F
  exact ⟨F', He.meth_ok (c.fact 83 (f := .meth "Writer" "__init__") rfl), F'.bindsN fun _ _ _ _ _ _ us hl => match us, hl with | [_], _ => rfl⟩
theorem has_Writer_plain (c : He.SaysD fa fn K) : Mt K "Writer" "plain" "Writer.plain" s_Writer_plain ["self", "values"] := by
  obtain ⟨fd, F⟩ := c.def_ 25 (d := d_Writer_plain) rfl
  have e := fd_eq F
  subst e
  have F' : FunD K "plain" "Writer.plain" (defArgs s_Writer_plain) (defBody s_Writer_plain) (defScope s_Writer_plain) [] [] (He.ma K (He.ga K "Writer") "plain") (fdOf K ("Writer", some "plain")) := F
  exact ⟨F', He.meth_ok (c.fact 84 (f := .meth "Writer" "plain") rfl), F'.bindsN fun _ _ _ _ _ _ us hl => match us, hl with | [_, _], _ => rfl⟩
theorem has_Writer_field (c : He.SaysD fa fn K) : Mt K "Writer" "field" "Writer.field" s_Writer_field ["self", "values", "is_wrong"] := by
  obtain ⟨fd, F⟩ := c.def_ 26 (d := d_Writer_field) rfl
  have e := fd_eq F
  subst e
  have F' : FunD K "field" "Writer.field" (defArgs s_Writer_field) (defBody s_Writer_field) (defScope s_Writer_field) [] [] (He.ma K (He.ga K "Writer") "field") (fdOf K ("Writer", some "field")) := F
  exact ⟨F', He.meth_ok (c.fact 85 (f := .meth "Writer" "field") rfl), F'.bindsN fun _ _ _ _ _ _ us hl => match us, hl with | [_, _, _], _ => rfl⟩
theorem has_track_cells (X : K.In h) (G : h.Ns mainGlobals mg) (c : He.SaysD fa fn K) : FnK K mg "track_cells" s_track_cells ["sectors", "length"] 1 "length" (.int 0) := by
  obtain ⟨fd, F⟩ := c.def_ 27 (d := d_track_cells) rfl
  have e := fd_eq F
  subst e
  have F' : FunD K "track_cells" "track_cells" (defArgs s_track_cells) (defBody s_track_cells) (defScope s_track_cells) [] [("length", .int 0)] (He.ga K "track_cells") (fdOf K ("track_cells", none)) := F
  obtain ⟨mv, b⟩ := F'.kbinds0 (ps := ["sectors", "length"]) 1 ["length"] [] (fun us _ ws => us ++ ws) (List.cons_ne_nil _ _) (by intro q hq; cases hq) (fun r1 _ r3 => r1.append r3) (fun _ _ _ _ _ _ us mv ws hl hm hw => match us, mv, ws, hl, hm, hw with | [_], [], [_], _, _, _ => rfl)
  exact ⟨F', He.glo_ok X G (c.fact 21 (f := .glo "track_cells") rfl), F'.binds0 (ps := ["sectors", "length"]) 1 (List.cons_ne_nil _ _) rfl (fun _ _ _ _ _ _ us ks hl hk => match us, ks, hl, hk with | [_], [_], _, _ => ⟨_, _, _, _, _, _, rfl, rfl, rfl⟩), b⟩
theorem has_mark_places (X : K.In h) (G : h.Ns mainGlobals mg) (c : He.SaysD fa fn K) : Fn K mg "mark_places" s_mark_places ["cells"] := by
  obtain ⟨fd, F⟩ := c.def_ 28 (d := d_mark_places) rfl
  have e := fd_eq F
  subst e
  have F' : FunD K "mark_places" "mark_places" (defArgs s_mark_places) (defBody s_mark_places) (defScope s_mark_places) [] [] (He.ga K "mark_places") (fdOf K ("mark_places", none)) := F
  exact ⟨F', He.glo_ok X G (c.fact 22 (f := .glo "mark_places") rfl), F'.bindsN fun _ _ _ _ _ _ us hl => match us, hl with | [_], _ => rfl⟩
theorem has_bytes_at (X : K.In h) (G : h.Ns mainGlobals mg) (c : He.SaysD fa fn K) : Fn K mg "bytes_at" s_bytes_at ["cells", "place", "count"] := by
  obtain ⟨fd, F⟩ := c.def_ 29 (d := d_bytes_at) rfl
  have e := fd_eq F
  subst e
  have F' : FunD K "bytes_at" "bytes_at" (defArgs s_bytes_at) (defBody s_bytes_at) (defScope s_bytes_at) [] [] (He.ga K "bytes_at") (fdOf K ("bytes_at", none)) := F
  exact ⟨F', He.glo_ok X G (c.fact 23 (f := .glo "bytes_at") rfl), F'.bindsN fun _ _ _ _ _ _ us hl => match us, hl with | [_, _, _], _ => rfl⟩
theorem has_is_checked (X : K.In h) (G : h.Ns mainGlobals mg) (c : He.SaysD fa fn K) : Fn K mg "is_checked" s_is_checked ["values"] := by
  obtain ⟨fd, F⟩ := c.def_ 30 (d := d_is_checked) rfl
  have e := fd_eq F
  subst e
  have F' : FunD K "is_checked" "is_checked" (defArgs s_is_checked) (defBody s_is_checked) (defScope s_is_checked) [] [] (He.ga K "is_checked") (fdOf K ("is_checked", none)) := F
  exact ⟨F', He.glo_ok X G (c.fact 24 (f := .glo "is_checked") rfl), F'.bindsN fun _ _ _ _ _ _ us hl => match us, hl with | [_], _ => rfl⟩
theorem has_data_behind (X : K.In h) (G : h.Ns mainGlobals mg) (c : He.SaysD fa fn K) : Fn K mg "data_behind" s_data_behind ["cells", "place", "size"] := by
  obtain ⟨fd, F⟩ := c.def_ 31 (d := d_data_behind) rfl
  have e := fd_eq F
  subst e
  have F' : FunD K "data_behind" "data_behind" (defArgs s_data_behind) (defBody s_data_behind) (defScope s_data_behind) [] [] (He.ga K "data_behind") (fdOf K ("data_behind", none)) := F
  exact ⟨F', He.glo_ok X G (c.fact 25 (f := .glo "data_behind") rfl), F'.bindsN fun _ _ _ _ _ _ us hl => match us, hl with | [_, _, _], _ => rfl⟩
theorem has_Finder_init (c : He.SaysD fa fn K) : Mt K "Finder" "__init__" "Finder.__init__" s_Finder_init ["self", "cells"] := by
  obtain ⟨fd, F⟩ := c.def_ 32 (d := d_Finder_init) rfl
  have e := fd_eq F
  subst e
  have F' : FunD K "__init__" "Finder.__init__" (defArgs s_Finder_init) (defBody s_Finder_init) (defScope s_Finder_init) [] [] (He.ma K (He.ga K "Finder") "__init__") (fdOf K ("Finder", some "__init__")) := F
  exact ⟨F', He.meth_ok (c.fact 86 (f := .meth "Finder" "__init__") rfl), F'.bindsN fun _ _ _ _ _ _ us hl => match us, hl with | [_, _], _ => rfl⟩
theorem has_Finder_first_byte (c : He.SaysD fa fn K) : Mt K "Finder" "first_byte" "Finder.first_byte" s_Finder_first_byte ["self", "place"] := by
  obtain ⟨fd, F⟩ := c.def_ 33 (d := d_Finder_first_byte) rfl
  have e := fd_eq F
  subst e
  have F' : FunD K "first_byte" "Finder.first_byte" (defArgs s_Finder_first_byte) (defBody s_Finder_first_byte) (defScope s_Finder_first_byte) [] [] (He.ma K (He.ga K "Finder") "first_byte") (fdOf K ("Finder", some "first_byte")) := F
  exact ⟨F', He.meth_ok (c.fact 87 (f := .meth "Finder" "first_byte") rfl), F'.bindsN fun _ _ _ _ _ _ us hl => match us, hl with | [_, _], _ => rfl⟩
theorem has_Finder_look (c : He.SaysD fa fn K) : Mt K "Finder" "look" "Finder.look" s_Finder_look ["self", "place"] := by
  obtain ⟨fd, F⟩ := c.def_ 34 (d := d_Finder_look) rfl
  have e := fd_eq F
  subst e
  have F' : FunD K "look" "Finder.look" (defArgs s_Finder_look) (defBody s_Finder_look) (defScope s_Finder_look) [] [] (He.ma K (He.ga K "Finder") "look") (fdOf K ("Finder", some "look")) := F
  exact ⟨F', He.meth_ok (c.fact 88 (f := .meth "Finder" "look") rfl), F'.bindsN fun _ _ _ _ _ _ us hl => match us, hl with | [_, _], _ => rfl⟩
theorem has_Finder_take_address (c : He.SaysD fa fn K) : Mt K "Finder" "take_address" "Finder.take_address" s_Finder_take_address ["self", "place"] := by
  obtain ⟨fd, F⟩ := c.def_ 35 (d := d_Finder_take_address) rfl
  have e := fd_eq F
  subst e
  have F' : FunD K "take_address" "Finder.take_address" (defArgs s_Finder_take_address) (defBody s_Finder_take_address) (defScope s_Finder_take_address) [] [] (He.ma K (He.ga K "Finder") "take_address") (fdOf K ("Finder", some "take_address")) := F
  exact ⟨F', He.meth_ok (c.fact 89 (f := .meth "Finder" "take_address") rfl), F'.bindsN fun _ _ _ _ _ _ us hl => match us, hl with | [_, _], _ => rfl⟩
theorem has_Finder_take_data (c : He.SaysD fa fn K) : Mt K "Finder" "take_data" "Finder.take_data" s_Finder_take_data ["self", "place"] := by
  obtain ⟨fd, F⟩ := c.def_ 36 (d := d_Finder_take_data) rfl
  have e := fd_eq F
  subst e
  have F' : FunD K "take_data" "Finder.take_data" (defArgs s_Finder_take_data) (defBody s_Finder_take_data) (defScope s_Finder_take_data) [] [] (He.ma K (He.ga K "Finder") "take_data") (fdOf K ("Finder", some "take_data")) := F
  exact ⟨F', He.meth_ok (c.fact 90 (f := .meth "Finder" "take_data") rfl), F'.bindsN fun _ _ _ _ _ _ us hl => match us, hl with | [_, _], _ => rfl⟩
theorem has_found_sectors (X : K.In h) (G : h.Ns mainGlobals mg) (c : He.SaysD fa fn K) : Fn K mg "found_sectors" s_found_sectors ["cells"] := by
  obtain ⟨fd, F⟩ := c.def_ 37 (d := d_found_sectors) rfl
  have e := fd_eq F
  subst e
  have F' : FunD K "found_sectors" "found_sectors" (defArgs s_found_sectors) (defBody s_found_sectors) (defScope s_found_sectors) [] [] (He.ga K "found_sectors") (fdOf K ("found_sectors", none)) := F
  exact ⟨F', He.glo_ok X G (c.fact 26 (f := .glo "found_sectors") rfl), F'.bindsN fun _ _ _ _ _ _ us hl => match us, hl with | [_], _ => rfl⟩
theorem has_found_in (X : K.In h) (G : h.Ns mainGlobals mg) (c : He.SaysD fa fn K) : Fn K mg "found_in" s_found_in ["reads", "cell"] := by
  obtain ⟨fd, F⟩ := c.def_ 38 (d := d_found_in) rfl
  have e := fd_eq F
  subst e
  have F' : FunD K "found_in" "found_in" (defArgs s_found_in) (defBody s_found_in) (defScope s_found_in) [] [] (He.ga K "found_in") (fdOf K ("found_in", none)) := F
  exact ⟨F', He.glo_ok X G (c.fact 27 (f := .glo "found_in") rfl), F'.bindsN fun _ _ _ _ _ _ us hl => match us, hl with | [_, _], _ => rfl⟩
theorem has_weak_runs (X : K.In h) (G : h.Ns mainGlobals mg) (c : He.SaysD fa fn K) : Fn K mg "weak_runs" s_weak_runs ["lists"] := by
  obtain ⟨fd, F⟩ := c.def_ 39 (d := d_weak_runs) rfl
  have e := fd_eq F
  subst e
  have F' : FunD K "weak_runs" "weak_runs" (defArgs s_weak_runs) (defBody s_weak_runs) (defScope s_weak_runs) [] [] (He.ga K "weak_runs") (fdOf K ("weak_runs", none)) := F
  exact ⟨F', He.glo_ok X G (c.fact 28 (f := .glo "weak_runs") rfl), F'.bindsN fun _ _ _ _ _ _ us hl => match us, hl with | [_], _ => rfl⟩
theorem has_good_sectors (X : K.In h) (G : h.Ns mainGlobals mg) (c : He.SaysD fa fn K) : Fn K mg "good_sectors" s_good_sectors ["rows"] := by
  obtain ⟨fd, F⟩ := c.def_ 40 (d := d_good_sectors) rfl
  have e := fd_eq F
  subst e
  have F' : FunD K "good_sectors" "good_sectors" (defArgs s_good_sectors) (defBody s_good_sectors) (defScope s_good_sectors) [] [] (He.ga K "good_sectors") (fdOf K ("good_sectors", none)) := F
  exact ⟨F', He.glo_ok X G (c.fact 29 (f := .glo "good_sectors") rfl), F'.bindsN fun _ _ _ _ _ _ us hl => match us, hl with | [_], _ => rfl⟩
theorem has_all_addresses (X : K.In h) (G : h.Ns mainGlobals mg) (c : He.SaysD fa fn K) : Fn K mg "all_addresses" s_all_addresses ["rows"] := by
  obtain ⟨fd, F⟩ := c.def_ 41 (d := d_all_addresses) rfl
  have e := fd_eq F
  subst e
  have F' : FunD K "all_addresses" "all_addresses" (defArgs s_all_addresses) (defBody s_all_addresses) (defScope s_all_addresses) [] [] (He.ga K "all_addresses") (fdOf K ("all_addresses", none)) := F
  exact ⟨F', He.glo_ok X G (c.fact 30 (f := .glo "all_addresses") rfl), F'.bindsN fun _ _ _ _ _ _ us hl => match us, hl with | [_], _ => rfl⟩
theorem has_doubled (X : K.In h) (G : h.Ns mainGlobals mg) (c : He.SaysD fa fn K) : Fn K mg "doubled" s_doubled ["rows", "address"] := by
  obtain ⟨fd, F⟩ := c.def_ 42 (d := d_doubled) rfl
  have e := fd_eq F
  subst e
  have F' : FunD K "doubled" "doubled" (defArgs s_doubled) (defBody s_doubled) (defScope s_doubled) [] [] (He.ga K "doubled") (fdOf K ("doubled", none)) := F
  exact ⟨F', He.glo_ok X G (c.fact 31 (f := .glo "doubled") rfl), F'.bindsN fun _ _ _ _ _ _ us hl => match us, hl with | [_, _], _ => rfl⟩
theorem has_views_with (X : K.In h) (G : h.Ns mainGlobals mg) (c : He.SaysD fa fn K) : Fn K mg "views_with" s_views_with ["rows", "address"] := by
  obtain ⟨fd, F⟩ := c.def_ 43 (d := d_views_with) rfl
  have e := fd_eq F
  subst e
  have F' : FunD K "views_with" "views_with" (defArgs s_views_with) (defBody s_views_with) (defScope s_views_with) [] [] (He.ga K "views_with") (fdOf K ("views_with", none)) := F
  exact ⟨F', He.glo_ok X G (c.fact 32 (f := .glo "views_with") rfl), F'.bindsN fun _ _ _ _ _ _ us hl => match us, hl with | [_, _], _ => rfl⟩
theorem has_is_wrong (X : K.In h) (G : h.Ns mainGlobals mg) (c : He.SaysD fa fn K) : Fn K mg "is_wrong" s_is_wrong ["rows", "address"] := by
  obtain ⟨fd, F⟩ := c.def_ 44 (d := d_is_wrong) rfl
  have e := fd_eq F
  subst e
  have F' : FunD K "is_wrong" "is_wrong" (defArgs s_is_wrong) (defBody s_is_wrong) (defScope s_is_wrong) [] [] (He.ga K "is_wrong") (fdOf K ("is_wrong", none)) := F
  exact ⟨F', He.glo_ok X G (c.fact 33 (f := .glo "is_wrong") rfl), F'.bindsN fun _ _ _ _ _ _ us hl => match us, hl with | [_, _], _ => rfl⟩
theorem has_is_empty (X : K.In h) (G : h.Ns mainGlobals mg) (c : He.SaysD fa fn K) : Fn K mg "is_empty" s_is_empty ["rows", "address"] := by
  obtain ⟨fd, F⟩ := c.def_ 45 (d := d_is_empty) rfl
  have e := fd_eq F
  subst e
  have F' : FunD K "is_empty" "is_empty" (defArgs s_is_empty) (defBody s_is_empty) (defScope s_is_empty) [] [] (He.ga K "is_empty") (fdOf K ("is_empty", none)) := F
  exact ⟨F', He.glo_ok X G (c.fact 34 (f := .glo "is_empty") rfl), F'.bindsN fun _ _ _ _ _ _ us hl => match us, hl with | [_, _], _ => rfl⟩
theorem has_features (X : K.In h) (G : h.Ns mainGlobals mg) (c : He.SaysD fa fn K) : Fn K mg "features" s_features ["place", "reads", "cell", "wanted"] := by
  obtain ⟨fd, F⟩ := c.def_ 46 (d := d_features) rfl
  have e := fd_eq F
  subst e
  have F' : FunD K "features" "features" (defArgs s_features) (defBody s_features) (defScope s_features) [] [] (He.ga K "features") (fdOf K ("features", none)) := F
  exact ⟨F', He.glo_ok X G (c.fact 35 (f := .glo "features") rfl), F'.bindsN fun _ _ _ _ _ _ us hl => match us, hl with | [_, _, _, _], _ => rfl⟩
theorem has_is_weak_bit (X : K.In h) (G : h.Ns mainGlobals mg) (c : He.SaysD fa fn K) : Fn K mg "is_weak_bit" s_is_weak_bit ["number", "index"] := by
  obtain ⟨fd, F⟩ := c.def_ 47 (d := d_is_weak_bit) rfl
  have e := fd_eq F
  subst e
  have F' : FunD K "is_weak_bit" "is_weak_bit" (defArgs s_is_weak_bit) (defBody s_is_weak_bit) (defScope s_is_weak_bit) [] [] (He.ga K "is_weak_bit") (fdOf K ("is_weak_bit", none)) := F
  exact ⟨F', He.glo_ok X G (c.fact 36 (f := .glo "is_weak_bit") rfl), F'.bindsN fun _ _ _ _ _ _ us hl => match us, hl with | [_, _], _ => rfl⟩
theorem has_weakened (X : K.In h) (G : h.Ns mainGlobals mg) (c : He.SaysD fa fn K) : Fn K mg "weakened" s_weakened ["cells", "place", "count", "number"] := by
  obtain ⟨fd, F⟩ := c.def_ 48 (d := d_weakened) rfl
  have e := fd_eq F
  subst e
  have F' : FunD K "weakened" "weakened" (defArgs s_weakened) (defBody s_weakened) (defScope s_weakened) [] [] (He.ga K "weakened") (fdOf K ("weakened", none)) := F
  exact ⟨F', He.glo_ok X G (c.fact 37 (f := .glo "weakened") rfl), F'.bindsN fun _ _ _ _ _ _ us hl => match us, hl with | [_, _, _, _], _ => rfl⟩
theorem has_protected_cells (X : K.In h) (G : h.Ns mainGlobals mg) (c : He.SaysD fa fn K) : FnK K mg "protected_cells" s_protected_cells ["sectors", "runs", "number", "length"] 3 "length" (.int 0) := by
  obtain ⟨fd, F⟩ := c.def_ 49 (d := d_protected_cells) rfl
  have e := fd_eq F
  subst e
  have F' : FunD K "protected_cells" "protected_cells" (defArgs s_protected_cells) (defBody s_protected_cells) (defScope s_protected_cells) [] [("length", .int 0)] (He.ga K "protected_cells") (fdOf K ("protected_cells", none)) := F
  obtain ⟨mv, b⟩ := F'.kbinds0 (ps := ["sectors", "runs", "number", "length"]) 3 ["length"] [] (fun us _ ws => us ++ ws) (List.cons_ne_nil _ _) (by intro q hq; cases hq) (fun r1 _ r3 => r1.append r3) (fun _ _ _ _ _ _ us mv ws hl hm hw => match us, mv, ws, hl, hm, hw with | [_, _, _], [], [_], _, _, _ => rfl)
  exact ⟨F', He.glo_ok X G (c.fact 38 (f := .glo "protected_cells") rfl), F'.binds0 (ps := ["sectors", "runs", "number", "length"]) 3 (List.cons_ne_nil _ _) rfl (fun _ _ _ _ _ _ us ks hl hk => match us, ks, hl, hk with | [_, _, _], [_], _, _ => ⟨_, _, _, _, _, _, rfl, rfl, rfl⟩), b⟩
theorem has_write_number (X : K.In h) (G : h.Ns mainGlobals mg) (c : He.SaysD fa fn K) : Fn K mg "write_number" s_write_number ["number"] := by
  obtain ⟨fd, F⟩ := c.def_ 50 (d := d_write_number) rfl
  have e := fd_eq F
  subst e
  have F' : FunD K "write_number" "write_number" (defArgs s_write_number) (defBody s_write_number) (defScope s_write_number) [] [] (He.ga K "write_number") (fdOf K ("write_number", none)) := F
  exact ⟨F', He.glo_ok X G (c.fact 39 (f := .glo "write_number") rfl), F'.bindsN fun _ _ _ _ _ _ us hl => match us, hl with | [_], _ => rfl⟩
theorem has_read_number (X : K.In h) (G : h.Ns mainGlobals mg) (c : He.SaysD fa fn K) : Fn K mg "read_number" s_read_number ["values", "at"] := by
  obtain ⟨fd, F⟩ := c.def_ 51 (d := d_read_number) rfl
  have e := fd_eq F
  subst e
  have F' : FunD K "read_number" "read_number" (defArgs s_read_number) (defBody s_read_number) (defScope s_read_number) [] [] (He.ga K "read_number") (fdOf K ("read_number", none)) := F
  exact ⟨F', He.glo_ok X G (c.fact 40 (f := .glo "read_number") rfl), F'.bindsN fun _ _ _ _ _ _ us hl => match us, hl with | [_, _], _ => rfl⟩
theorem has_is_note (X : K.In h) (G : h.Ns mainGlobals mg) (c : He.SaysD fa fn K) : Fn K mg "is_note" s_is_note ["note"] := by
  obtain ⟨fd, F⟩ := c.def_ 52 (d := d_is_note) rfl
  have e := fd_eq F
  subst e
  have F' : FunD K "is_note" "is_note" (defArgs s_is_note) (defBody s_is_note) (defScope s_is_note) [] [] (He.ga K "is_note") (fdOf K ("is_note", none)) := F
  exact ⟨F', He.glo_ok X G (c.fact 41 (f := .glo "is_note") rfl), F'.bindsN fun _ _ _ _ _ _ us hl => match us, hl with | [_], _ => rfl⟩
theorem has_is_place (X : K.In h) (G : h.Ns mainGlobals mg) (c : He.SaysD fa fn K) : Fn K mg "is_place" s_is_place ["place"] := by
  obtain ⟨fd, F⟩ := c.def_ 53 (d := d_is_place) rfl
  have e := fd_eq F
  subst e
  have F' : FunD K "is_place" "is_place" (defArgs s_is_place) (defBody s_is_place) (defScope s_is_place) [] [] (He.ga K "is_place") (fdOf K ("is_place", none)) := F
  exact ⟨F', He.glo_ok X G (c.fact 42 (f := .glo "is_place") rfl), F'.bindsN fun _ _ _ _ _ _ us hl => match us, hl with | [_], _ => rfl⟩
theorem has_Image_init (c : He.SaysD fa fn K) : Mt K "Image" "__init__" "Image.__init__" s_Image_init ["self", "cell", "note", "tracks"] := by
  obtain ⟨fd, F⟩ := c.def_ 54 (d := d_Image_init) rfl
  have e := fd_eq F
  subst e
  have F' : FunD K "__init__" "Image.__init__" (defArgs s_Image_init) (defBody s_Image_init) (defScope s_Image_init) [] [] (He.ma K (He.ga K "Image") "__init__") (fdOf K ("Image", some "__init__")) := F
  exact ⟨F', He.meth_ok (c.fact 91 (f := .meth "Image" "__init__") rfl), F'.bindsN fun _ _ _ _ _ _ us hl => match us, hl with | [_, _, _, _], _ => rfl⟩
theorem has_Image_eq (c : He.SaysD fa fn K) : Mt K "Image" "__eq__" "Image.__eq__" s_Image_eq ["self", "other"] := by
  obtain ⟨fd, F⟩ := c.def_ 55 (d := d_Image_eq) rfl
  have e := fd_eq F
  subst e
  have F' : FunD K "__eq__" "Image.__eq__" (defArgs s_Image_eq) (defBody s_Image_eq) (defScope s_Image_eq) [] [] (He.ma K (He.ga K "Image") "__eq__") (fdOf K ("Image", some "__eq__")) := F
  exact ⟨F', He.meth_ok (c.fact 92 (f := .meth "Image" "__eq__") rfl), F'.bindsN fun _ _ _ _ _ _ us hl => match us, hl with | [_, _], _ => rfl⟩
theorem has_Image_places (c : He.SaysD fa fn K) : Mt K "Image" "places" "Image.places" s_Image_places ["self"] := by
  obtain ⟨fd, F⟩ := c.def_ 56 (d := d_Image_places) rfl
  have e := fd_eq F
  subst e
  have F' : FunD K "places" "Image.places" (defArgs s_Image_places) (defBody s_Image_places) (defScope s_Image_places) [] [] (He.ma K (He.ga K "Image") "places") (fdOf K ("Image", some "places")) := F
  exact ⟨F', He.meth_ok (c.fact 93 (f := .meth "Image" "places") rfl), F'.bindsN fun _ _ _ _ _ _ us hl => match us, hl with | [_], _ => rfl⟩
theorem has_Image_reads (c : He.SaysD fa fn K) : Mt K "Image" "reads" "Image.reads" s_Image_reads ["self", "place"] := by
  obtain ⟨fd, F⟩ := c.def_ 57 (d := d_Image_reads) rfl
  have e := fd_eq F
  subst e
  have F' : FunD K "reads" "Image.reads" (defArgs s_Image_reads) (defBody s_Image_reads) (defScope s_Image_reads) [] [] (He.ma K (He.ga K "Image") "reads") (fdOf K ("Image", some "reads")) := F
  exact ⟨F', He.meth_ok (c.fact 94 (f := .meth "Image" "reads") rfl), F'.bindsN fun _ _ _ _ _ _ us hl => match us, hl with | [_, _], _ => rfl⟩
theorem has_back_count (X : K.In h) (G : h.Ns mainGlobals mg) (c : He.SaysD fa fn K) : Fn K mg "back_count" s_back_count ["intervals", "at"] := by
  obtain ⟨fd, F⟩ := c.def_ 58 (d := d_back_count) rfl
  have e := fd_eq F
  subst e
  have F' : FunD K "back_count" "back_count" (defArgs s_back_count) (defBody s_back_count) (defScope s_back_count) [] [] (He.ga K "back_count") (fdOf K ("back_count", none)) := F
  exact ⟨F', He.glo_ok X G (c.fact 43 (f := .glo "back_count") rfl), F'.bindsN fun _ _ _ _ _ _ us hl => match us, hl with | [_, _], _ => rfl⟩
theorem has_read_bytes (X : K.In h) (G : h.Ns mainGlobals mg) (c : He.SaysD fa fn K) : Fn K mg "read_bytes" s_read_bytes ["read"] := by
  obtain ⟨fd, F⟩ := c.def_ 59 (d := d_read_bytes) rfl
  have e := fd_eq F
  subst e
  have F' : FunD K "read_bytes" "read_bytes" (defArgs s_read_bytes) (defBody s_read_bytes) (defScope s_read_bytes) [] [] (He.ga K "read_bytes") (fdOf K ("read_bytes", none)) := F
  exact ⟨F', He.glo_ok X G (c.fact 44 (f := .glo "read_bytes") rfl), F'.bindsN fun _ _ _ _ _ _ us hl => match us, hl with | [_], _ => rfl⟩
theorem has_track_part (X : K.In h) (G : h.Ns mainGlobals mg) (c : He.SaysD fa fn K) : Fn K mg "track_part" s_track_part ["place", "reads"] := by
  obtain ⟨fd, F⟩ := c.def_ 60 (d := d_track_part) rfl
  have e := fd_eq F
  subst e
  have F' : FunD K "track_part" "track_part" (defArgs s_track_part) (defBody s_track_part) (defScope s_track_part) [] [] (He.ga K "track_part") (fdOf K ("track_part", none)) := F
  exact ⟨F', He.glo_ok X G (c.fact 45 (f := .glo "track_part") rfl), F'.bindsN fun _ _ _ _ _ _ us hl => match us, hl with | [_, _], _ => rfl⟩
theorem has_first_bytes_of (X : K.In h) (G : h.Ns mainGlobals mg) (c : He.SaysD fa fn K) : Fn K mg "first_bytes_of" s_first_bytes_of ["cell", "note", "count"] := by
  obtain ⟨fd, F⟩ := c.def_ 61 (d := d_first_bytes_of) rfl
  have e := fd_eq F
  subst e
  have F' : FunD K "first_bytes_of" "first_bytes_of" (defArgs s_first_bytes_of) (defBody s_first_bytes_of) (defScope s_first_bytes_of) [] [] (He.ga K "first_bytes_of") (fdOf K ("first_bytes_of", none)) := F
  exact ⟨F', He.glo_ok X G (c.fact 46 (f := .glo "first_bytes_of") rfl), F'.bindsN fun _ _ _ _ _ _ us hl => match us, hl with | [_, _, _], _ => rfl⟩
theorem has_sealed (X : K.In h) (G : h.Ns mainGlobals mg) (c : He.SaysD fa fn K) : Fn K mg "sealed" s_sealed ["values"] := by
  obtain ⟨fd, F⟩ := c.def_ 62 (d := d_sealed) rfl
  have e := fd_eq F
  subst e
  have F' : FunD K "sealed" "sealed" (defArgs s_sealed) (defBody s_sealed) (defScope s_sealed) [] [] (He.ga K "sealed") (fdOf K ("sealed", none)) := F
  exact ⟨F', He.glo_ok X G (c.fact 47 (f := .glo "sealed") rfl), F'.bindsN fun _ _ _ _ _ _ us hl => match us, hl with | [_], _ => rfl⟩
theorem has_image_bytes (X : K.In h) (G : h.Ns mainGlobals mg) (c : He.SaysD fa fn K) : Fn K mg "image_bytes" s_image_bytes ["image"] := by
  obtain ⟨fd, F⟩ := c.def_ 63 (d := d_image_bytes) rfl
  have e := fd_eq F
  subst e
  have F' : FunD K "image_bytes" "image_bytes" (defArgs s_image_bytes) (defBody s_image_bytes) (defScope s_image_bytes) [] [] (He.ga K "image_bytes") (fdOf K ("image_bytes", none)) := F
  exact ⟨F', He.glo_ok X G (c.fact 48 (f := .glo "image_bytes") rfl), F'.bindsN fun _ _ _ _ _ _ us hl => match us, hl with | [_], _ => rfl⟩
theorem has_ImageReader_init (c : He.SaysD fa fn K) : Mt K "ImageReader" "__init__" "ImageReader.__init__" s_ImageReader_init ["self", "values"] := by
  obtain ⟨fd, F⟩ := c.def_ 64 (d := d_ImageReader_init) rfl
  have e := fd_eq F
  subst e
  have F' : FunD K "__init__" "ImageReader.__init__" (defArgs s_ImageReader_init) (defBody s_ImageReader_init) (defScope s_ImageReader_init) [] [] (He.ma K (He.ga K "ImageReader") "__init__") (fdOf K ("ImageReader", some "__init__")) := F
  exact ⟨F', He.meth_ok (c.fact 95 (f := .meth "ImageReader" "__init__") rfl), F'.bindsN fun _ _ _ _ _ _ us hl => match us, hl with | [_, _], _ => rfl⟩
theorem has_ImageReader_number (c : He.SaysD fa fn K) : Mt K "ImageReader" "number" "ImageReader.number" s_ImageReader_number ["self"] := by
  obtain ⟨fd, F⟩ := c.def_ 65 (d := d_ImageReader_number) rfl
  have e := fd_eq F
  subst e
  have F' : FunD K "number" "ImageReader.number" (defArgs s_ImageReader_number) (defBody s_ImageReader_number) (defScope s_ImageReader_number) [] [] (He.ma K (He.ga K "ImageReader") "number") (fdOf K ("ImageReader", some "number")) := F
  exact ⟨F', He.meth_ok (c.fact 96 (f := .meth "ImageReader" "number") rfl), F'.bindsN fun _ _ _ _ _ _ us hl => match us, hl with | [_], _ => rfl⟩
theorem has_ImageReader_take (c : He.SaysD fa fn K) : Mt K "ImageReader" "take" "ImageReader.take" s_ImageReader_take ["self", "count"] := by
  obtain ⟨fd, F⟩ := c.def_ 66 (d := d_ImageReader_take) rfl
  have e := fd_eq F
  subst e
  have F' : FunD K "take" "ImageReader.take" (defArgs s_ImageReader_take) (defBody s_ImageReader_take) (defScope s_ImageReader_take) [] [] (He.ma K (He.ga K "ImageReader") "take") (fdOf K ("ImageReader", some "take")) := F
  exact ⟨F', He.meth_ok (c.fact 97 (f := .meth "ImageReader" "take") rfl), F'.bindsN fun _ _ _ _ _ _ us hl => match us, hl with | [_, _], _ => rfl⟩
theorem has_ImageReader_read_intervals (c : He.SaysD fa fn K) : Mt K "ImageReader" "read_intervals" "ImageReader.read_intervals" s_ImageReader_read_intervals ["self", "count"] := by
  obtain ⟨fd, F⟩ := c.def_ 67 (d := d_ImageReader_read_intervals) rfl
  have e := fd_eq F
  subst e
  have F' : FunD K "read_intervals" "ImageReader.read_intervals" (defArgs s_ImageReader_read_intervals) (defBody s_ImageReader_read_intervals) (defScope s_ImageReader_read_intervals) [] [] (He.ma K (He.ga K "ImageReader") "read_intervals") (fdOf K ("ImageReader", some "read_intervals")) := F
  exact ⟨F', He.meth_ok (c.fact 98 (f := .meth "ImageReader" "read_intervals") rfl), F'.bindsN fun _ _ _ _ _ _ us hl => match us, hl with | [_, _], _ => rfl⟩
theorem has_ImageReader_read_read (c : He.SaysD fa fn K) : Mt K "ImageReader" "read_read" "ImageReader.read_read" s_ImageReader_read_read ["self"] := by
  obtain ⟨fd, F⟩ := c.def_ 68 (d := d_ImageReader_read_read) rfl
  have e := fd_eq F
  subst e
  have F' : FunD K "read_read" "ImageReader.read_read" (defArgs s_ImageReader_read_read) (defBody s_ImageReader_read_read) (defScope s_ImageReader_read_read) [] [] (He.ma K (He.ga K "ImageReader") "read_read") (fdOf K ("ImageReader", some "read_read")) := F
  exact ⟨F', He.meth_ok (c.fact 99 (f := .meth "ImageReader" "read_read") rfl), F'.bindsN fun _ _ _ _ _ _ us hl => match us, hl with | [_], _ => rfl⟩
theorem has_ImageReader_read_track (c : He.SaysD fa fn K) : Mt K "ImageReader" "read_track" "ImageReader.read_track" s_ImageReader_read_track ["self"] := by
  obtain ⟨fd, F⟩ := c.def_ 69 (d := d_ImageReader_read_track) rfl
  have e := fd_eq F
  subst e
  have F' : FunD K "read_track" "ImageReader.read_track" (defArgs s_ImageReader_read_track) (defBody s_ImageReader_read_track) (defScope s_ImageReader_read_track) [] [] (He.ma K (He.ga K "ImageReader") "read_track") (fdOf K ("ImageReader", some "read_track")) := F
  exact ⟨F', He.meth_ok (c.fact 100 (f := .meth "ImageReader" "read_track") rfl), F'.bindsN fun _ _ _ _ _ _ us hl => match us, hl with | [_], _ => rfl⟩
theorem has_ImageReader_read_count (c : He.SaysD fa fn K) : Mt K "ImageReader" "read_count" "ImageReader.read_count" s_ImageReader_read_count ["self"] := by
  obtain ⟨fd, F⟩ := c.def_ 70 (d := d_ImageReader_read_count) rfl
  have e := fd_eq F
  subst e
  have F' : FunD K "read_count" "ImageReader.read_count" (defArgs s_ImageReader_read_count) (defBody s_ImageReader_read_count) (defScope s_ImageReader_read_count) [] [] (He.ma K (He.ga K "ImageReader") "read_count") (fdOf K ("ImageReader", some "read_count")) := F
  exact ⟨F', He.meth_ok (c.fact 101 (f := .meth "ImageReader" "read_count") rfl), F'.bindsN fun _ _ _ _ _ _ us hl => match us, hl with | [_], _ => rfl⟩
theorem has_ImageReader_skip_track (c : He.SaysD fa fn K) : Mt K "ImageReader" "skip_track" "ImageReader.skip_track" s_ImageReader_skip_track ["self"] := by
  obtain ⟨fd, F⟩ := c.def_ 71 (d := d_ImageReader_skip_track) rfl
  have e := fd_eq F
  subst e
  have F' : FunD K "skip_track" "ImageReader.skip_track" (defArgs s_ImageReader_skip_track) (defBody s_ImageReader_skip_track) (defScope s_ImageReader_skip_track) [] [] (He.ma K (He.ga K "ImageReader") "skip_track") (fdOf K ("ImageReader", some "skip_track")) := F
  exact ⟨F', He.meth_ok (c.fact 102 (f := .meth "ImageReader" "skip_track") rfl), F'.bindsN fun _ _ _ _ _ _ us hl => match us, hl with | [_], _ => rfl⟩
theorem has_codes_text (X : K.In h) (G : h.Ns mainGlobals mg) (c : He.SaysD fa fn K) : Fn K mg "codes_text" s_codes_text ["values"] := by
  obtain ⟨fd, F⟩ := c.def_ 72 (d := d_codes_text) rfl
  have e := fd_eq F
  subst e
  have F' : FunD K "codes_text" "codes_text" (defArgs s_codes_text) (defBody s_codes_text) (defScope s_codes_text) [] [] (He.ga K "codes_text") (fdOf K ("codes_text", none)) := F
  exact ⟨F', He.glo_ok X G (c.fact 49 (f := .glo "codes_text") rfl), F'.bindsN fun _ _ _ _ _ _ us hl => match us, hl with | [_], _ => rfl⟩
theorem has_read_first (X : K.In h) (G : h.Ns mainGlobals mg) (c : He.SaysD fa fn K) : Fn K mg "read_first" s_read_first ["reader"] := by
  obtain ⟨fd, F⟩ := c.def_ 73 (d := d_read_first) rfl
  have e := fd_eq F
  subst e
  have F' : FunD K "read_first" "read_first" (defArgs s_read_first) (defBody s_read_first) (defScope s_read_first) [] [] (He.ga K "read_first") (fdOf K ("read_first", none)) := F
  exact ⟨F', He.glo_ok X G (c.fact 50 (f := .glo "read_first") rfl), F'.bindsN fun _ _ _ _ _ _ us hl => match us, hl with | [_], _ => rfl⟩
theorem has_right_track (X : K.In h) (G : h.Ns mainGlobals mg) (c : He.SaysD fa fn K) : Fn K mg "right_track" s_right_track ["part"] := by
  obtain ⟨fd, F⟩ := c.def_ 74 (d := d_right_track) rfl
  have e := fd_eq F
  subst e
  have F' : FunD K "right_track" "right_track" (defArgs s_right_track) (defBody s_right_track) (defScope s_right_track) [] [] (He.ga K "right_track") (fdOf K ("right_track", none)) := F
  exact ⟨F', He.glo_ok X G (c.fact 51 (f := .glo "right_track") rfl), F'.bindsN fun _ _ _ _ _ _ us hl => match us, hl with | [_], _ => rfl⟩
theorem has_read_tracks (X : K.In h) (G : h.Ns mainGlobals mg) (c : He.SaysD fa fn K) : Fn K mg "read_tracks" s_read_tracks ["reader", "count"] := by
  obtain ⟨fd, F⟩ := c.def_ 75 (d := d_read_tracks) rfl
  have e := fd_eq F
  subst e
  have F' : FunD K "read_tracks" "read_tracks" (defArgs s_read_tracks) (defBody s_read_tracks) (defScope s_read_tracks) [] [] (He.ga K "read_tracks") (fdOf K ("read_tracks", none)) := F
  exact ⟨F', He.glo_ok X G (c.fact 52 (f := .glo "read_tracks") rfl), F'.bindsN fun _ _ _ _ _ _ us hl => match us, hl with | [_, _], _ => rfl⟩
theorem has_read_image (X : K.In h) (G : h.Ns mainGlobals mg) (c : He.SaysD fa fn K) : Fn K mg "read_image" s_read_image ["values"] := by
  obtain ⟨fd, F⟩ := c.def_ 76 (d := d_read_image) rfl
  have e := fd_eq F
  subst e
  have F' : FunD K "read_image" "read_image" (defArgs s_read_image) (defBody s_read_image) (defScope s_read_image) [] [] (He.ga K "read_image") (fdOf K ("read_image", none)) := F
  exact ⟨F', He.glo_ok X G (c.fact 53 (f := .glo "read_image") rfl), F'.bindsN fun _ _ _ _ _ _ us hl => match us, hl with | [_], _ => rfl⟩
theorem has_law_made (X : K.In h) (G : h.Ns mainGlobals mg) (c : He.SaysD fa fn K) : Fn K mg "_law_made" s_law_made ["_law_sectors"] := by
  obtain ⟨fd, F⟩ := c.def_ 77 (d := d_law_made) rfl
  have e := fd_eq F
  subst e
  have F' : FunD K "_law_made" "_law_made" (defArgs s_law_made) (defBody s_law_made) (defScope s_law_made) [] [] (He.ga K "_law_made") (fdOf K ("_law_made", none)) := F
  exact ⟨F', He.glo_ok X G (c.fact 54 (f := .glo "_law_made") rfl), F'.bindsN fun _ _ _ _ _ _ us hl => match us, hl with | [_], _ => rfl⟩
theorem has_law_pool (X : K.In h) (G : h.Ns mainGlobals mg) (c : He.SaysD fa fn K) : Fn K mg "_law_pool" s_law_pool ["_law_script"] := by
  obtain ⟨fd, F⟩ := c.def_ 78 (d := d_law_pool) rfl
  have e := fd_eq F
  subst e
  have F' : FunD K "_law_pool" "_law_pool" (defArgs s_law_pool) (defBody s_law_pool) (defScope s_law_pool) [] [] (He.ga K "_law_pool") (fdOf K ("_law_pool", none)) := F
  exact ⟨F', He.glo_ok X G (c.fact 55 (f := .glo "_law_pool") rfl), F'.bindsN fun _ _ _ _ _ _ us hl => match us, hl with | [_], _ => rfl⟩
theorem has_law_spread (X : K.In h) (G : h.Ns mainGlobals mg) (c : He.SaysD fa fn K) : Fn K mg "_law_spread" s_law_spread ["_law_cell"] := by
  obtain ⟨fd, F⟩ := c.def_ 79 (d := d_law_spread) rfl
  have e := fd_eq F
  subst e
  have F' : FunD K "_law_spread" "_law_spread" (defArgs s_law_spread) (defBody s_law_spread) (defScope s_law_spread) [] [] (He.ga K "_law_spread") (fdOf K ("_law_spread", none)) := F
  exact ⟨F', He.glo_ok X G (c.fact 56 (f := .glo "_law_spread") rfl), F'.bindsN fun _ _ _ _ _ _ us hl => match us, hl with | [_], _ => rfl⟩
theorem has_law_draw (X : K.In h) (G : h.Ns mainGlobals mg) (c : He.SaysD fa fn K) : Fn K mg "_law_draw" s_law_draw ["_law_pool_here", "_law_many"] := by
  obtain ⟨fd, F⟩ := c.def_ 80 (d := d_law_draw) rfl
  have e := fd_eq F
  subst e
  have F' : FunD K "_law_draw" "_law_draw" (defArgs s_law_draw) (defBody s_law_draw) (defScope s_law_draw) [] [] (He.ga K "_law_draw") (fdOf K ("_law_draw", none)) := F
  exact ⟨F', He.glo_ok X G (c.fact 57 (f := .glo "_law_draw") rfl), F'.bindsN fun _ _ _ _ _ _ us hl => match us, hl with | [_, _], _ => rfl⟩
theorem has_law_same (X : K.In h) (G : h.Ns mainGlobals mg) (c : He.SaysD fa fn K) : Fn K mg "_law_same" s_law_same ["_law_actual", "_law_due"] := by
  obtain ⟨fd, F⟩ := c.def_ 81 (d := d_law_same) rfl
  have e := fd_eq F
  subst e
  have F' : FunD K "_law_same" "_law_same" (defArgs s_law_same) (defBody s_law_same) (defScope s_law_same) [] [] (He.ga K "_law_same") (fdOf K ("_law_same", none)) := F
  exact ⟨F', He.glo_ok X G (c.fact 58 (f := .glo "_law_same") rfl), F'.bindsN fun _ _ _ _ _ _ us hl => match us, hl with | [_, _], _ => rfl⟩
theorem has_law_weak_of (X : K.In h) (G : h.Ns mainGlobals mg) (c : He.SaysD fa fn K) : Fn K mg "_law_weak_of" s_law_weak_of ["_law_lists"] := by
  obtain ⟨fd, F⟩ := c.def_ 82 (d := d_law_weak_of) rfl
  have e := fd_eq F
  subst e
  have F' : FunD K "_law_weak_of" "_law_weak_of" (defArgs s_law_weak_of) (defBody s_law_weak_of) (defScope s_law_weak_of) [] [] (He.ga K "_law_weak_of") (fdOf K ("_law_weak_of", none)) := F
  exact ⟨F', He.glo_ok X G (c.fact 59 (f := .glo "_law_weak_of") rfl), F'.bindsN fun _ _ _ _ _ _ us hl => match us, hl with | [_], _ => rfl⟩
theorem has_law_plan (X : K.In h) (G : h.Ns mainGlobals mg) (c : He.SaysD fa fn K) : Fn K mg "_law_plan" s_law_plan ["_law_pool_here"] := by
  obtain ⟨fd, F⟩ := c.def_ 83 (d := d_law_plan) rfl
  have e := fd_eq F
  subst e
  have F' : FunD K "_law_plan" "_law_plan" (defArgs s_law_plan) (defBody s_law_plan) (defScope s_law_plan) [] [] (He.ga K "_law_plan") (fdOf K ("_law_plan", none)) := F
  exact ⟨F', He.glo_ok X G (c.fact 60 (f := .glo "_law_plan") rfl), F'.bindsN fun _ _ _ _ _ _ us hl => match us, hl with | [_], _ => rfl⟩
theorem has_law (X : K.In h) (G : h.Ns mainGlobals mg) (c : He.SaysD fa fn K) : Fn K mg "law" s_law ["_law_script"] := by
  obtain ⟨fd, F⟩ := c.def_ 84 (d := d_law) rfl
  have e := fd_eq F
  subst e
  have F' : FunD K "law" "law" (defArgs s_law) (defBody s_law) (defScope s_law) [] [] (He.ga K "law") (fdOf K ("law", none)) := F
  exact ⟨F', He.glo_ok X G (c.fact 61 (f := .glo "law") rfl), F'.bindsN fun _ _ _ _ _ _ us hl => match us, hl with | [_], _ => rfl⟩
theorem has_T (X : K.In h) (G : h.Ns mainGlobals mg) (z : SaysZ K) : T K mg := by
  have c := z.d
  have x0 := z.ex
  obtain ⟨y0, x1⟩ := He.ba (show (ktupB K "BIT_WEIGHTS" vals_BIT_WEIGHTS && _) = true from x0)
  obtain ⟨y1, x2⟩ := He.ba (show (ktupB K "MARK_CELLS" vals_MARK_CELLS && _) = true from x1)
  obtain ⟨y2, x3⟩ := He.ba (show (ktupB K "THREE_MARKS" vals_THREE_MARKS && _) = true from x2)
  obtain ⟨y3, x4⟩ := He.ba (show (ktupB K "POWERS_tracks" vals_POWERS_tracks && _) = true from x3)
  obtain ⟨y4, x5⟩ := He.ba (show (ktupB K "POWERS_protection" vals_POWERS_protection && _) = true from x4)
  obtain ⟨y5, x6⟩ := He.ba (show (ktupB K "FIRST_BYTES" vals_FIRST_BYTES && _) = true from x5)
  obtain ⟨y6, x7⟩ := He.ba (show (insB K "Read" && _) = true from x6)
  obtain ⟨y7, x8⟩ := He.ba (show (insB K "Image" && _) = true from x7)
  obtain ⟨y8, x9⟩ := He.ba (show (He.eqO (PySem.W.findIn K (.ref (He.ga K "Image")) "__ne__") (some (some (.builtin "object.__ne__"))) && _) = true from x8)
  exact {
    f_Read_init := has_Read_init c
    f_Read_eq := has_Read_eq c
    f_demand_cell := has_demand_cell X G c
    f_flux_of := has_flux_of X G c
    f_fixed_cells := has_fixed_cells X G c
    f_shortest := has_shortest X G c
    f_weak_places := has_weak_places X G c
    f_byte_bits := has_byte_bits X G c
    f_bits_byte := has_bits_byte X G c
    f_exclusive := has_exclusive X G c
    f_step := has_step X G c
    f_crc := has_crc X G c
    f_two_bytes := has_two_bytes X G c
    f_all_bits := has_all_bits X G c
    f_whole_bytes := has_whole_bytes X G c
    f_clock_for := has_clock_for X G c
    f_mfm_cells := has_mfm_cells X G c
    f_read_mfm := has_read_mfm X G c
    f_Sector_init := has_Sector_init c
    f_data_length := has_data_length X G c
    f_is_sector := has_is_sector X G c
    f_demand_sectors := has_demand_sectors X G c
    f_sector_length := has_sector_length X G c
    f_track_bytes := has_track_bytes X G c
    f_Writer_init := has_Writer_init c
    f_Writer_plain := has_Writer_plain c
    f_Writer_field := has_Writer_field c
    f_track_cells := has_track_cells X G c
    f_mark_places := has_mark_places X G c
    f_bytes_at := has_bytes_at X G c
    f_is_checked := has_is_checked X G c
    f_data_behind := has_data_behind X G c
    f_Finder_init := has_Finder_init c
    f_Finder_first_byte := has_Finder_first_byte c
    f_Finder_look := has_Finder_look c
    f_Finder_take_address := has_Finder_take_address c
    f_Finder_take_data := has_Finder_take_data c
    f_found_sectors := has_found_sectors X G c
    f_found_in := has_found_in X G c
    f_weak_runs := has_weak_runs X G c
    f_good_sectors := has_good_sectors X G c
    f_all_addresses := has_all_addresses X G c
    f_doubled := has_doubled X G c
    f_views_with := has_views_with X G c
    f_is_wrong := has_is_wrong X G c
    f_is_empty := has_is_empty X G c
    f_features := has_features X G c
    f_is_weak_bit := has_is_weak_bit X G c
    f_weakened := has_weakened X G c
    f_protected_cells := has_protected_cells X G c
    f_write_number := has_write_number X G c
    f_read_number := has_read_number X G c
    f_is_note := has_is_note X G c
    f_is_place := has_is_place X G c
    f_Image_init := has_Image_init c
    f_Image_eq := has_Image_eq c
    f_Image_places := has_Image_places c
    f_Image_reads := has_Image_reads c
    f_back_count := has_back_count X G c
    f_read_bytes := has_read_bytes X G c
    f_track_part := has_track_part X G c
    f_first_bytes_of := has_first_bytes_of X G c
    f_sealed := has_sealed X G c
    f_image_bytes := has_image_bytes X G c
    f_ImageReader_init := has_ImageReader_init c
    f_ImageReader_number := has_ImageReader_number c
    f_ImageReader_take := has_ImageReader_take c
    f_ImageReader_read_intervals := has_ImageReader_read_intervals c
    f_ImageReader_read_read := has_ImageReader_read_read c
    f_ImageReader_read_track := has_ImageReader_read_track c
    f_ImageReader_read_count := has_ImageReader_read_count c
    f_ImageReader_skip_track := has_ImageReader_skip_track c
    f_codes_text := has_codes_text X G c
    f_read_first := has_read_first X G c
    f_right_track := has_right_track X G c
    f_read_tracks := has_read_tracks X G c
    f_read_image := has_read_image X G c
    f_law_made := has_law_made X G c
    f_law_pool := has_law_pool X G c
    f_law_spread := has_law_spread X G c
    f_law_draw := has_law_draw X G c
    f_law_same := has_law_same X G c
    f_law_weak_of := has_law_weak_of X G c
    f_law_plan := has_law_plan X G c
    f_law := has_law X G c
    i_MOST_INTERVALS := He.int_ok X G (c.fact 119 (f := .int "MOST_INTERVALS" (60000)) rfl)
    i_LONGEST := He.int_ok X G (c.fact 120 (f := .int "LONGEST" (1000000)) rfl)
    i_SHORTEST_CELL := He.int_ok X G (c.fact 121 (f := .int "SHORTEST_CELL" (10)) rfl)
    i_LONGEST_CELL := He.int_ok X G (c.fact 122 (f := .int "LONGEST_CELL" (1000)) rfl)
    T_BIT_WEIGHTS := ⟨He.glo_ok X G (c.fact 123 (f := .glo "BIT_WEIGHTS") rfl), ktupB_ok y0⟩
    i_CRC_START := He.int_ok X G (c.fact 124 (f := .int "CRC_START" (65535)) rfl)
    i_CRC_MASK := He.int_ok X G (c.fact 125 (f := .int "CRC_MASK" (4129)) rfl)
    i_WORD := He.int_ok X G (c.fact 126 (f := .int "WORD" (65536)) rfl)
    i_TOP := He.int_ok X G (c.fact 127 (f := .int "TOP" (32768)) rfl)
    i_GAP := He.int_ok X G (c.fact 128 (f := .int "GAP" (78)) rfl)
    i_MARK_BYTE := He.int_ok X G (c.fact 129 (f := .int "MARK_BYTE" (161)) rfl)
    T_MARK_CELLS := ⟨He.glo_ok X G (c.fact 130 (f := .glo "MARK_CELLS") rfl), ktupB_ok y1⟩
    T_THREE_MARKS := ⟨He.glo_ok X G (c.fact 131 (f := .glo "THREE_MARKS") rfl), ktupB_ok y2⟩
    i_ADDRESS_BYTE := He.int_ok X G (c.fact 132 (f := .int "ADDRESS_BYTE" (254)) rfl)
    i_DATA_BYTE := He.int_ok X G (c.fact 133 (f := .int "DATA_BYTE" (251)) rfl)
    i_FIRST_GAP := He.int_ok X G (c.fact 134 (f := .int "FIRST_GAP" (10)) rfl)
    i_GAP_COUNT := He.int_ok X G (c.fact 135 (f := .int "GAP_COUNT" (8)) rfl)
    i_SYNC_COUNT := He.int_ok X G (c.fact 136 (f := .int "SYNC_COUNT" (6)) rfl)
    i_GREATEST_SIZE := He.int_ok X G (c.fact 137 (f := .int "GREATEST_SIZE" (5)) rfl)
    i_SMALLEST := He.int_ok X G (c.fact 138 (f := .int "SMALLEST" (16)) rfl)
    i_FARTHEST := He.int_ok X G (c.fact 139 (f := .int "FARTHEST" (960)) rfl)
    T_POWERS_tracks := ⟨He.glo_ok X G (c.fact 140 (f := .glo "POWERS_tracks") rfl), ktupB_ok y3⟩
    T_POWERS_protection := ⟨He.glo_ok X G (c.fact 141 (f := .glo "POWERS_protection") rfl), ktupB_ok y4⟩
    i_BASE := He.int_ok X G (c.fact 142 (f := .int "BASE" (128)) rfl)
    i_LONGEST_NOTE := He.int_ok X G (c.fact 143 (f := .int "LONGEST_NOTE" (200)) rfl)
    s_SIGNS := He.str_ok X G (c.fact 144 (f := .str "SIGNS" val_SIGNS) rfl)
    i_GREATEST_CYLINDER := He.int_ok X G (c.fact 145 (f := .int "GREATEST_CYLINDER" (99)) rfl)
    i_MOST_READS := He.int_ok X G (c.fact 146 (f := .int "MOST_READS" (20)) rfl)
    T_FIRST_BYTES := ⟨He.glo_ok X G (c.fact 147 (f := .glo "FIRST_BYTES") rfl), ktupB_ok y5⟩
    i_FARTHEST_BACK := He.int_ok X G (c.fact 148 (f := .int "FARTHEST_BACK" (60)) rfl)
    c_Read := ⟨He.cls_ok (c.fact 63 (f := .cls "Read") rfl), He.glo_ok X G (c.fact 62 (f := .glo "Read") rfl), He.mkr_ok (c.fact 64 (f := .mkr "Read") rfl)⟩
    a_Read_intervals := He.noat_ok (c.fact 103 (f := .noat "Read" "intervals") rfl)
    a_Read_rest := He.noat_ok (c.fact 104 (f := .noat "Read" "rest") rfl)
    c_Sector := ⟨He.cls_ok (c.fact 66 (f := .cls "Sector") rfl), He.glo_ok X G (c.fact 65 (f := .glo "Sector") rfl), He.mkr_ok (c.fact 67 (f := .mkr "Sector") rfl)⟩
    a_Sector_address := He.noat_ok (c.fact 105 (f := .noat "Sector" "address") rfl)
    a_Sector_data := He.noat_ok (c.fact 106 (f := .noat "Sector" "data") rfl)
    a_Sector_address_wrong := He.noat_ok (c.fact 107 (f := .noat "Sector" "address_wrong") rfl)
    a_Sector_data_wrong := He.noat_ok (c.fact 108 (f := .noat "Sector" "data_wrong") rfl)
    c_Writer := ⟨He.cls_ok (c.fact 69 (f := .cls "Writer") rfl), He.glo_ok X G (c.fact 68 (f := .glo "Writer") rfl), He.mkr_ok (c.fact 70 (f := .mkr "Writer") rfl)⟩
    a_Writer_cells := He.noat_ok (c.fact 109 (f := .noat "Writer" "cells") rfl)
    c_Finder := ⟨He.cls_ok (c.fact 72 (f := .cls "Finder") rfl), He.glo_ok X G (c.fact 71 (f := .glo "Finder") rfl), He.mkr_ok (c.fact 73 (f := .mkr "Finder") rfl)⟩
    a_Finder_cells := He.noat_ok (c.fact 110 (f := .noat "Finder" "cells") rfl)
    a_Finder_found := He.noat_ok (c.fact 111 (f := .noat "Finder" "found") rfl)
    a_Finder_is_open := He.noat_ok (c.fact 112 (f := .noat "Finder" "is_open") rfl)
    a_Finder_end := He.noat_ok (c.fact 113 (f := .noat "Finder" "end") rfl)
    c_Image := ⟨He.cls_ok (c.fact 75 (f := .cls "Image") rfl), He.glo_ok X G (c.fact 74 (f := .glo "Image") rfl), He.mkr_ok (c.fact 76 (f := .mkr "Image") rfl)⟩
    a_Image_cell := He.noat_ok (c.fact 114 (f := .noat "Image" "cell") rfl)
    a_Image_note := He.noat_ok (c.fact 115 (f := .noat "Image" "note") rfl)
    a_Image_tracks := He.noat_ok (c.fact 116 (f := .noat "Image" "tracks") rfl)
    c_ImageReader := ⟨He.cls_ok (c.fact 78 (f := .cls "ImageReader") rfl), He.glo_ok X G (c.fact 77 (f := .glo "ImageReader") rfl), He.mkr_ok (c.fact 79 (f := .mkr "ImageReader") rfl)⟩
    a_ImageReader_row := He.noat_ok (c.fact 117 (f := .noat "ImageReader" "row") rfl)
    a_ImageReader_at := He.noat_ok (c.fact 118 (f := .noat "ImageReader" "at") rfl)
    is_Read := insB_ok (He.cls_ok (c.fact 63 (f := .cls "Read") rfl)) y6
    is_Image := insB_ok (He.cls_ok (c.fact 75 (f := .cls "Image") rfl)) y7
    ne_Image := He.eqO_ok y8
    ob_Image := of_decide_eq_true x9
    n_range := He.free_ok X G (c.fact 149 (f := .free "range") rfl)
    n_len := He.free_ok X G (c.fact 150 (f := .free "len") rfl)
    n_max := He.free_ok X G (c.fact 151 (f := .free "max") rfl)
    n_min := He.free_ok X G (c.fact 152 (f := .free "min") rfl)
    n_sum := He.free_ok X G (c.fact 153 (f := .free "sum") rfl)
    n_any := He.free_ok X G (c.fact 154 (f := .free "any") rfl)
    n_all := He.free_ok X G (c.fact 155 (f := .free "all") rfl)
    n_int := He.free_ok X G (c.fact 156 (f := .free "int") rfl)
    n_str := He.free_ok X G (c.fact 157 (f := .free "str") rfl)
    n_ord := He.free_ok X G (c.fact 158 (f := .free "ord") rfl)
    n_list := He.free_ok X G (c.fact 159 (f := .free "list") rfl)
    n_tuple := He.free_ok X G (c.fact 160 (f := .free "tuple") rfl)
    n_set := He.free_ok X G (c.fact 161 (f := .free "set") rfl)
    n_sorted := He.free_ok X G (c.fact 162 (f := .free "sorted") rfl)
    n_isinstance := He.free_ok X G (c.fact 163 (f := .free "isinstance") rfl)
    n_bool := He.free_ok X G (c.fact 164 (f := .free "bool") rfl) }
end
end KW
open PySem PySem.W PySem.Calls PyProof.Rows
theorem PySem.Challenge.cw_discwright_k35_whole_features_are_kept_b_holds : PySem.Challenge.rw_discwright_k35_whole_features_are_kept_b.Holds := by
  w_on; o_law
  refine HandSHeadRun.head_any (r := OpenLaw.row PySem.Challenge.rw_discwright_k35_whole_features_are_kept_b) (q := view (OpenLaw.row PySem.Challenge.rw_discwright_k35_whole_features_are_kept_b).prog [115]) (H := KW.hk) (ob := KW.ob) (M := 20000) (loose := KW.names) (d := HandSHeadRun.topDef (OpenLaw.row PySem.Challenge.rw_discwright_k35_whole_features_are_kept_b).prog 115) (kwd := []) KW.ob_eq
    (by kernel_rfl) (fun s => by kernel_rfl) KW.run (by kernel_rfl) (by kernel_rfl) (by kernel_rfl) (by rfl) (by first | assumption | decide +kernel) (by decide +kernel) ⟨rfl, rfl, rfl, rfl, rfl, by decide +kernel⟩ ?hw ?hc
  case hw => w_witness2
  case hc =>
    refine L2.walk_ofE (l := PySem.Challenge.rw_discwright_k35_whole_features_are_kept_b) (n := 63) (k := 11) (x := "_law_script") (CX := L2.CX0) rfl (by decide) (by kernel_rfl) ⟨rfl, by decide, by decide⟩ ?F (fun _ _ _ _ z => z)
    intro w mg fa h Y G hmg0
    obtain ⟨K, KX, c⟩ := Y
    have hmg : mg ("law" : PySem.Str) = some (.ref fa) := by
      have e : (HandSHeadRun.topDef (OpenLaw.row PySem.Challenge.rw_discwright_k35_whole_features_are_kept_b).prog 115).name = ("law" : PySem.Str) := by kernel_rfl
      rw [← e]
      exact hmg0
    have W := KW.has_T KX G c
    have efa := hmg.symm.trans W.f_law.g
    cases efa
    have b := L2.FunD.bindsA (ps := ["_law_script"]) W.f_law.F fun _ _ _ _ _ _ us hl => match us, hl with | [_], _ => rfl
    exact ⟨K, KW.fdOf K ("law", none), KW.sp_law K, KX, fun s v => b s [v] rfl, fun H a ns hl _ hS => ⟨a, ns, rfl, hS, fun _ => rfl⟩, fun base KB GB => KW.ok_law (KW.has_T KB GB c)⟩
end
