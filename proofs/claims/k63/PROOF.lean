import PyProof.Rows.All
import Wide.All
import OpenK.AllK
import Wide.FinOn
import HandS.ForMost
import HandS.SortInts
import HandS.SortRule
import KE.KDictItemsList
import KE.KDictCopyH
import KE.KDictPairs
import HandS.DictTup
import KE.KRevSl
import HandS.Style
import KE.KStateDown
import HandS.Defaults
import HandS.Head0
import HandS.Head1
import HandS.Head2
import HandS.HeadEnd
import HandS.HeadHook1
import HandS.HeadHook2
import PySem.Challenge.RW_wholedown_k63_whole_collections_are_judg
import HandS.Iter
import HandS.TupLe
import HandS.OwnEq
import HandS.More
import HandS.Walk
import HandS.IsInst
import HandS.NoneIn
set_option Elab.async false
set_option linter.all false
set_option maxRecDepth 100000
set_option maxHeartbeats 4000000
/-! Rules that the layer lacks: sorted(d.values()), sorted(d.items()), dict(tuple of pairs) -/
namespace R63
open PySem PySem.W PySem.Calls PyProof.Rows PyProof.V PySem.Spec
section
variable {prog : Program} {w : World} {A : Around} {E : Value → Shared → Prop} {s : Shared} {T : String} {r d : Addr} {n : Nat} {P : Nat → Value → Prop} {OK : Heap → Prop}
/-- what a view of a dict gives, gathered -/
theorem gather {R : List Value → Shared → Prop} (K : KdlSrc prog w T r d n P OK) (hh : A.handled = none) (hok : OK s.heap) (hn : n ≤ sizeLine)
    (go : ∀ (h' : Heap) (tk : Nat) (vs : List Value), (∀ b o, s.heap.get? b = some o → h'.get? b = some o) → s.heap.objs.size < h'.objs.size → vs.length = n → (∀ j v, vs[j]? = some v → P j v) → R vs { s with heap := h', toks := tk }) :
    wpAny (model prog w) A (collect (.ref r)) R E s := by
  unfold collect
  refine wpAny_bind (wpAny_runValue (codeAny_builtin entry_proto_collect' ?_)); rw [Around.under_plainId PySem.F.plain_proto_collect _]
  show wpAny _ A.in1 (newList [] >>= fun z => again (.builtin "list.__iadd__" ⟨[z, .ref r], []⟩)) _ _ s
  refine wpAny_bind (wpAny_newObj_type ?_); refine wpAny_pure ⟨plainId_quiet PySem.F.plain_list_iadd _, codeAny_builtin entry_list_iadd' ?_⟩; rw [Around.under_plainId PySem.F.plain_list_iadd _]
  have e0 : (s.heap.push { cls := .type "list", data := .seq ([] : List Value).toArray }).get? s.heap.objs.size = some { cls := .type "list", data := .seq #[] } := Heap.get?_push_size _ rfl
  have low := K.there _ hok
  show wpAny _ A.in1 (Builtin.List.listExtendWith (.ref s.heap.objs.size) (.ref r) (.ref s.heap.objs.size)) _ _ _
  have main := kdl_extend (prog := prog) (w := w) (A := A) (s := { s with heap := s.heap.push { cls := .type "list", data := .seq ([] : List Value).toArray } })
    (R := fun (q : Result) (s' : Shared) => ∃ (h' : Heap) (tk : Nat) (acc : Array Value) (c : Nat), q = .ok (.ret (.ref s.heap.objs.size)) ∧ s' = { s with heap := h', toks := tk } ∧ (∀ b o, s.heap.get? b = some o → h'.get? b = some o) ∧
      h'.get? s.heap.objs.size = some { cls := .type "list", dict := none, data := .seq acc c, slots := #[] } ∧ ItemsOf P acc n)
    K hh (K.keep _ _ hok fun b _ o e => Heap.get?_push_of_some _ e) s.heap.objs.size (Nat.ne_of_gt low.1) (Nat.ne_of_gt low.2) (.ref s.heap.objs.size) 0 e0
    (fun h' tk acc c hk hS hacc => ⟨h', tk, acc, c, rfl, rfl, fun b o e => hk b o (Nat.ne_of_lt (Heap.lt_size e)) (Heap.get?_push_of_some _ e), hS, hacc⟩) hn
  refine wpAny_mono main (fun fin s2 x => ?_) fun e s2 x => by obtain ⟨_, _, _, _, e', _⟩ := x; cases e'
  have last : ∀ (h' : Heap) (tk : Nat) (acc : Array Value) (c : Nat), (∀ b o, s.heap.get? b = some o → h'.get? b = some o) → h'.get? s.heap.objs.size = some { cls := .type "list", dict := none, data := .seq acc c, slots := #[] } → ItemsOf P acc n →
      R acc.toList { s with heap := h', toks := tk } := fun h' tk acc c hk hS hacc =>
    go h' tk acc.toList hk (Heap.lt_size hS) (by rw [Array.length_toList]; exact hacc.1) fun j v e => hacc.2 j v (by rw [← Array.getElem?_toList]; exact e)
  cases fin with
  | done f =>
    obtain ⟨h', tk, acc, c, e, rfl, hk, hS, hacc⟩ := x
    cases e
    show wpAny _ A (load s.heap.objs.size >>= _) _ _ _
    exact wpAny_bind (wpAny_load hS (wpAny_pure (last h' tk acc c hk hS hacc)))
  | again c₁ =>
    refine ⟨x.1, codeAny_mono x.2 fun q s₂ y => ?_⟩
    obtain ⟨h', tk, acc, c, rfl, rfl, hk, hS, hacc⟩ := y
    show wpAny _ A (load s.heap.objs.size >>= _) _ _ _
    exact wpAny_bind (wpAny_load hS (wpAny_pure (last h' tk acc c hk hS hacc)))
end
end R63

set_option Elab.async false
set_option linter.all false
set_option maxRecDepth 100000
set_option maxHeartbeats 4000000
namespace R63
open PySem PySem.W PySem.Calls PyProof.Rows PyProof.V PySem.Spec
section
variable {prog : Program} {w : World} {A : Around} {E : Value → Shared → Prop} {s : Shared} {T : String} {r d : Addr} {n : Nat} {P : Nat → Value → Prop} {OK : Heap → Prop}
/-- sorted(view), up to the sort -/
theorem sortedV {Q : Value → Shared → Prop} (K : KdlSrc prog w T r d n P OK) (hh : A.handled = none) (hok : OK s.heap) (hn : n ≤ sizeLine)
    (go : ∀ (h' : Heap) (tk : Nat) (vs : List Value), (∀ b o, s.heap.get? b = some o → h'.get? b = some o) → s.heap.objs.size < h'.objs.size → vs.length = n → (∀ j v, vs[j]? = some v → P j v) →
      wpAny (model prog w) A.in1 (call (.builtin "list.sort") [.ref h'.objs.size]) (fun _ s' => Q (.ref h'.objs.size) s') E { s with heap := h'.push { cls := .type "list", data := .seq vs.toArray }, toks := tk }) :
    wpAny (model prog w) A (call (.builtin "sorted") [.ref r]) Q E s := by
  refine call_function_entry kind_sorted plain_sorted entry_sorted (args_sorted1 _) ?_; unfold Builtin.«sorted»
  refine wpAny_bind (m := checkCount "sorted" 1 1 _) (wpAny_pure ?_); refine wpAny_bind (gather (A := A.in1) K hh hok hn fun h' tk vs hk hlt hl hP => ?_)
  refine wpAny_bind (wpAny_newList ?_ (by rw [hl]; exact hn)); have hg := go h' tk vs hk hlt hl hP
  refine wpAny_bind (wpAny_holding (wpAny_mono hg (fun _ s' x => ?_) fun _ _ e => e)); exact wpAny_pure ⟨_, rfl, x⟩
end
end R63
namespace L2
open PySem PySem.Spec PyProof.Rows
section
variable {X : Cx}
/-- the view d.values() at p -/
def valuesO (p d : Addr) : HO := .ext fun h => h.IsValuesView p d
theorem valuesO_ok {P : Program} {w : World} {H : Hp} {h : Heap} {p d : Addr} (e : h.get? p = some { cls := .type "dict_values", data := .fields #[.ref d] }) : ObjOk P w H h p (valuesO p d) :=
  ⟨⟨_, e, rfl, rfl⟩, ⟨_, e⟩, fun h1 h2 x k => let ⟨o, ho, r⟩ := x; ⟨o, k o ho, r⟩⟩
/-- d.values(), d.items() of a dict with plain keys: a new view -/
def rView (mk : Addr → Addr → HO) : V → List V → Hp → VK → Prop := fun x xs H Q => ∃ (a : Addr) (kvs : List (Key × V)), x = .ref a ∧ xs = [] ∧ H a = some (.dK kvs) ∧ ∀ p, H p = none → Q (.ref p) (upd H p (mk p a))
theorem mt_valuesK : MtR X "dict.values" (rView valuesO) := by
  intro pins s σ H x xs v us Q I rx rxs h
  obtain ⟨a, kvs, rfl, rfl, ha, q⟩ := h
  cases rx; cases rxs
  obtain ⟨z, hd, vs', rel, m⟩ := dk_of I.hok ha
  refine call_meetsIn PySem.F.slot_dict_values m.typeIs PySem.F.entry_dict_values (PySem.F.args_dict_values_1 _) (meets_dict_values (mixKind X.prog X.w) a hd) ⟨⟨_, m⟩, ?_⟩
  have hf : H s.heap.objs.size = none := I.hok.fresh (Nat.le_refl _)
  exact ⟨.ref s.heap.objs.size, upd H s.heap.objs.size (valuesO s.heap.objs.size a), I.laid (t' := s.toks) (fun b u e => Heap.get?_push_of_some _ e) (Nat.le_refl _) (valuesO_ok (Heap.get?_push_size _ rfl)), rfl, q _ hf⟩
theorem mt_itemsK : MtR X "dict.items" (rView L2.DX.itemsO) := by
  intro pins s σ H x xs v us Q I rx rxs h
  obtain ⟨a, kvs, rfl, rfl, ha, q⟩ := h
  cases rx; cases rxs
  obtain ⟨z, hd, vs', rel, m⟩ := dk_of I.hok ha
  refine call_meetsIn PySem.F.slot_dict_items m.typeIs PySem.F.entry_dict_items (PySem.F.args_dict_items_1 _) (meets_dict_items (mixKind X.prog X.w) a hd) ⟨⟨_, m⟩, ?_⟩
  have hf : H s.heap.objs.size = none := I.hok.fresh (Nat.le_refl _)
  exact ⟨.ref s.heap.objs.size, upd H s.heap.objs.size (L2.DX.itemsO s.heap.objs.size a), I.laid (t' := s.toks) (fun b u e => Heap.get?_push_of_some _ e) (Nat.le_refl _) (L2.DX.itemsO_ok (Heap.get?_push_size _ rfl)), rfl, q _ hf⟩
/-- sorted(d.values()), the values ints -/
def rSortVals : List V → Hp → VK → Prop := fun vs H Q => ∃ (p a : Addr) (kvs : List (Key × V)) (ns : List Int), vs = [.ref p] ∧ H p = some (valuesO p a) ∧ H a = some (.dK kvs) ∧ kvs.map (·.2) = ns.map V.int ∧
  ∀ (ns' : List Int) (l : Addr), ns'.Perm ns → ns'.Pairwise (· ≤ ·) → H l = none → Q (.ref l) (upd H l (.lst (ns'.map V.int)))
theorem kv_vals : ∀ {kvs : List (Key × V)} {us : List (Key × Value)}, KV kvs us → Vals (kvs.map (·.2)) (us.map (·.2))
  | _, _, .nil => .nil
  | _, _, .cons h t => .cons h.2 (kv_vals t)
theorem cr_sortedVals (hc : X.calm = true) : CallR X (.builtin "sorted") rSortVals := by
  intro pins s σ H xs us Q I r h
  obtain ⟨p, a, kvs, ns, rfl, hp, ha, hns, q⟩ := h
  obtain rfl := Vals.ref1 r
  have view : s.heap.IsValuesView p a := (show ObjOk X.prog X.w H s.heap p (valuesO p a) from I.hok p _ hp).1
  obtain ⟨z, hd, us', rel, o, es, ep, ho, r1, r2, r3, r4, r5⟩ := dk_of I.hok ha
  have hlen : kvs.length = us'.length := Paired.length rel
  have hA : s.heap.DictAt (mixKind X.prog X.w) a us' ep := ⟨o, es, ho, r1, r2, r3, r4, r5⟩
  refine R63.sortedV (PySem.W.kdl_values (r := p) (d := a) (kvs := us') (ep := ep) (knd := mixKind X.prog X.w)) (I.ok.hd hc) ⟨view, hA⟩ (by rw [← hlen]; exact z) fun h' tk vs hk hlt hl hP => ?_
  have ev : vs = us'.map (·.2) := PySem.W.kdl_vals_eq vs hl hP
  have rv : Vals (ns.map V.int) vs := by rw [ev, ← hns]; exact kv_vals rel
  have hob : (h'.push { cls := .type "list", data := .seq vs.toArray }).get? h'.objs.size = some (seqObj "list" vs.toArray 0) := Heap.get?_push_size _ rfl
  have ne0 : ∀ b o, h'.get? b = some o → b ≠ h'.objs.size := fun b o e => Nat.ne_of_lt (Heap.lt_size e)
  have hi := rv.ints
  have zl : vs.length ≤ sizeLine := by rw [hl, ← hlen]; exact z
  refine wpAny_call_entry PyProof.Rows.slot_list_sort ⟨_, hob, rfl⟩ PyProof.Rows.entry_list_sort
    (SrtO.list_sort_ord SrtO.swo_int hob zl (fun h2 => SrtO.ints_sortable hi h2) fun out h1 h2 => ⟨.none, rfl, ?_⟩) (PyProof.Rows.args_list_sort _)
  obtain ⟨k1, k2, k3⟩ := SrtO.ints_out hi h1 h2
  obtain ⟨e, he⟩ := PyProof.Rows.sortedHeap_at (vs := vs) (out := out.toArray) hob
  have old : ∀ b o, s.heap.get? b = some o → (PyProof.Rows.sortedHeap (h'.push { cls := .type "list", data := .seq vs.toArray }) h'.objs.size vs out.toArray).get? b = some o := fun b o eb =>
    (PyProof.Rows.sortedHeap_old (ne0 _ _ (hk b o eb)) (Nat.lt_trans (Heap.lt_size (hk b o eb)) (by rw [Heap.size_push]; exact Nat.lt_succ_self _))).trans (Heap.get?_push_of_some _ (hk b o eb))
  have hl2 : ((out.map SrtO.iv).map V.int).length ≤ sizeLine := by
    rw [List.length_map, k2.length_eq]
    have z2 := rv.length
    rw [List.length_map] at z2
    rw [z2]; exact zl
  exact ⟨.ref h'.objs.size, upd H h'.objs.size (.lst ((out.map SrtO.iv).map V.int)), I.laid (t' := tk) old (Nat.le_of_lt hlt) ⟨hl2, out, e, vals_of_ints k1, he⟩, rfl, q _ _ k2 k3 (I.hok.fresh (Nat.le_of_lt hlt))⟩
end
end L2

set_option Elab.async false
set_option linter.all false
set_option maxRecDepth 100000
set_option maxHeartbeats 4000000
namespace L2
open PySem PySem.Spec PyProof.Rows
section
variable {X : Cx}
/-- an item's pair, by where it stands -/
def pairAt (as : List Addr) (ps : List (Int × Int)) (v : Value) : Int × Int := (((as.zip ps).find? fun z => decide (Value.ref z.1 = v)).map (·.2)).getD (0, 0)
theorem pairAt_ix : ∀ {as : List Addr} {ps : List (Int × Int)} {j : Nat} {b : Addr} {e : Int × Int}, as.Nodup → as[j]? = some b → ps[j]? = some e → pairAt as ps (.ref b) = e
  | [], _, j, b, e, _, h, _ => by simp at h
  | a :: as, [], j, b, e, _, _, h => by simp at h
  | a :: as, p :: ps, 0, b, e, _, h1, h2 => by
    have e1 : a = b := Option.some.inj h1
    have e2 : p = e := Option.some.inj h2
    subst e1 e2
    unfold pairAt
    rw [List.zip_cons_cons, List.find?_cons_of_pos (by simp)]
    rfl
  | a :: as, p :: ps, j + 1, b, e, nd, h1, h2 => by
    have h1' : as[j]? = some b := h1
    have ne : ¬ a = b := fun z => (List.nodup_cons.mp nd).1 (by rw [z]; exact List.mem_of_getElem? h1')
    have ih := pairAt_ix (ps := ps) (List.nodup_cons.mp nd).2 h1' h2
    unfold pairAt at ih ⊢
    rw [List.zip_cons_cons, List.find?_cons_of_neg (by simp [ne])]
    exact ih
/-- sorted(d.items()), keys and values ints -/
def rSortItems : List V → Hp → VK → Prop := fun vs H Q => ∃ (p a : Addr) (ps : List (Int × Int)), vs = [.ref p] ∧ H p = some (L2.DX.itemsO p a) ∧ H a = some (.dK (ps.map fun e => (Sum.inl e.1, V.int e.2))) ∧
  ∀ (H' : Hp) (l : Addr) (ts : List (Addr × Int × Int)), (∀ b o, H b = some o → H' b = some o) → (ts.map (·.2)).Perm ps → (ts.map (·.2)).Pairwise (fun e f => SrtO.lexB f e = false) → H l = none → H' l = some (.lst (ts.map fun z => V.ref z.1)) →
    (∀ z ∈ ts, H z.1 = none ∧ H' z.1 = some (.tup [.int z.2.1, .int z.2.2])) → Q (.ref l) H'
theorem cr_sortedItemsI (hc : X.calm = true) : CallR X (.builtin "sorted") rSortItems := by
  intro pins s σ H xs us Q I r h
  obtain ⟨p, a, ps, rfl, hp, ha, q⟩ := h
  obtain rfl := Vals.ref1 r
  have view : s.heap.IsItemsView p a := (show ObjOk X.prog X.w H s.heap p (L2.DX.itemsO p a) from I.hok p _ hp).1
  obtain ⟨z, hd, us', rel, o, es, ep, ho, r1, r2, r3, r4, r5⟩ := dk_of I.hok ha
  have hlen : ps.length = us'.length := by have z := Paired.length rel; rw [List.length_map] at z; exact z
  have hes : es.size = us'.length := by rw [← r4.length]; simp
  rw [List.length_map] at z
  refine DT.sortedI (es := es) (ep := ep) (I.ok.hd hc) view ⟨o, ho, r1, r2⟩ (by rw [hes, ← hlen]; exact z) fun h' tk as hk hlt hl hG => ?_
  have nd : as.Nodup := List.Pairwise.imp (fun h => Nat.ne_of_lt h) hG.rise
  have lak : as.length = ps.length := by rw [hl, hes, hlen]
  have pr : ∀ (j : Nat) (b : Addr), as[j]? = some b → ∃ (e : Int × Int) (t u : Tok), ps[j]? = some e ∧ h'.get? b = some { cls := .type "tuple", data := .seq #[.int e.1 t, .int e.2 u] } := by
    intro j b hj
    obtain ⟨en, he, hg⟩ := hG.pairs j b hj
    have hjl : j < ps.length := by rw [← lak]; exact (List.getElem?_eq_some_iff.mp hj).1
    obtain ⟨x, hx⟩ : ∃ x, us'[j]? = some x := ⟨us'[j]'(by omega), List.getElem?_eq_getElem _⟩
    obtain ⟨e, he2⟩ : ∃ e, ps[j]? = some e := ⟨ps[j]'hjl, List.getElem?_eq_getElem _⟩
    obtain ⟨y, hy, y1, y2⟩ := L2.DX.pget rel hx
    rw [List.getElem?_map, he2] at hy
    have ey : ((Sum.inl e.1 : Key), V.int e.2) = y := Option.some.inj hy
    rw [← ey] at y1 y2
    have k0 := r4.get? (i := j) (e := en) (by rw [← Array.getElem?_toList] at he; exact he) (show us'[j]? = some (x.1, x.2) from hx)
    obtain ⟨ku, vu⟩ := k0
    rw [← y1] at ku
    obtain ⟨t, et⟩ := Value.isInt_shape (k := e.1) (v := en.key) ku
    obtain ⟨u, eu⟩ : ∃ u, x.2 = Value.int e.2 u := y2
    refine ⟨e, t, u, he2, ?_⟩
    rw [hg, et, vu, eu]
  have ix : ∀ (j : Nat) (b : Addr) (e : Int × Int), as[j]? = some b → ps[j]? = some e → pairAt as ps (.ref b) = e := fun j b e h1 h2 => pairAt_ix nd h1 h2
  have hob : (h'.push { cls := .type "list", data := .seq (as.map Value.ref).toArray }).get? h'.objs.size = some (seqObj "list" (as.map Value.ref).toArray 0) := Heap.get?_push_size _ rfl
  have ne0 : ∀ b o, h'.get? b = some o → b ≠ h'.objs.size := fun b o e => Nat.ne_of_lt (Heap.lt_size e)
  generalize hh2 : h'.push { cls := .type "list", data := .seq (as.map Value.ref).toArray } = h2 at hob ⊢
  have ka : ∀ b o, h'.get? b = some o → h2.get? b = some o := fun b o e => by rw [← hh2]; exact Heap.get?_push_of_some _ e
  have zl : (as.map Value.ref).length ≤ sizeLine := by rw [List.length_map, lak]; exact z
  have isP : ∀ v ∈ as.map Value.ref, Srt.IsPair h2 v (pairAt as ps v).1 (pairAt as ps v).2 := fun v hv => by
    obtain ⟨b, hb, rfl⟩ := List.mem_map.mp hv
    obtain ⟨j, hj⟩ := List.mem_iff_getElem?.mp hb
    obtain ⟨e, t, u, he, hg⟩ := pr j b hj
    rw [ix j b e hj he]
    exact ⟨b, _, t, u, 0, rfl, ka _ _ hg, rfl, rfl⟩
  refine wpAny_call_entry PyProof.Rows.slot_list_sort ⟨_, hob, rfl⟩ PyProof.Rows.entry_list_sort
    (SrtO.list_sort_ord (s := { s with heap := h2, toks := tk }) (SrtO.swo_lex (pairAt as ps)) hob zl (fun h2' => SrtO.pairs_sortableO (s := { s with heap := h2, toks := tk }) (by omega) isP fun o e => by
      have e' : some o = some (seqObj "list" (as.map Value.ref).toArray 0) := e.symm.trans hob
      cases e'
      intro c
      exact absurd (Value.type.inj c) (by decide)) fun out h1 hst => ⟨.none, rfl, ?_⟩) (PyProof.Rows.args_list_sort _)
  show EP X pins σ Q (.ref h'.objs.size) { s with heap := PyProof.Rows.sortedHeap h2 h'.objs.size (as.map Value.ref) out.toArray, toks := tk }
  obtain ⟨ts, pz, ez⟩ := perm_lift (fun z : Addr × Int × Int => Value.ref z.1) hst.perm (as.zip ps) (by
    rw [show (fun z : Addr × Int × Int => Value.ref z.1) = Value.ref ∘ Prod.fst from rfl, ← List.map_map, List.map_fst_zip (by omega)])
  have idx : ∀ z ∈ ts, ∃ j : Nat, as[j]? = some z.1 ∧ ps[j]? = some z.2 := fun y hy => by
    obtain ⟨j, hj⟩ := List.mem_iff_getElem?.mp (pz.mem_iff.mp hy)
    exact ⟨j, List.getElem?_zip_eq_some.mp hj⟩
  have hperm : (ts.map (·.2)).Perm ps := by
    have e := pz.map (·.2)
    rw [List.map_snd_zip (by omega)] at e
    exact e
  have hsort : (ts.map (·.2)).Pairwise (fun e f => SrtO.lexB f e = false) := by
    rw [List.pairwise_map]
    have h1' : out.Pairwise (fun v u => SrtO.lexB (pairAt as ps u) (pairAt as ps v) = false) := h1
    rw [← ez, List.pairwise_map] at h1'
    refine List.Pairwise.imp_of_mem (fun {x y} hx hy hq => ?_) h1'
    obtain ⟨j, j1, j2⟩ := idx x hx
    obtain ⟨i, i1, i2⟩ := idx y hy
    rw [ix j _ _ j1 j2, ix i _ _ i1 i2] at hq
    exact hq
  have kF : ∀ b o, b ≠ h'.objs.size → h2.get? b = some o → (PyProof.Rows.sortedHeap h2 h'.objs.size (as.map Value.ref) out.toArray).get? b = some o := fun b o hb e => (PyProof.Rows.sortedHeap_old hb (Heap.lt_size e)).trans e
  have kS : ∀ b o, s.heap.get? b = some o → (PyProof.Rows.sortedHeap h2 h'.objs.size (as.map Value.ref) out.toArray).get? b = some o := fun b o e => kF b o (ne0 _ _ (hk b o e)) (ka b o (hk b o e))
  obtain ⟨eF, heF⟩ := PyProof.Rows.sortedHeap_at (vs := as.map Value.ref) (out := out.toArray) hob
  have hn0 : H h'.objs.size = none := I.hok.fresh (Nat.le_of_lt hlt)
  have lts : (ts.map fun z => V.ref z.1).length ≤ sizeLine := by
    have e := hperm.length_eq
    rw [List.length_map] at e
    rw [List.length_map]; omega
  have rv : Vals (ts.map fun z => V.ref z.1) out := by
    rw [← ez]
    exact vals_maps (fun z : Addr × Int × Int => V.ref z.1) (fun z => Value.ref z.1) ts fun _ _ => rfl
  have I2 : Inv X pins σ (upd H h'.objs.size (.lst (ts.map fun z => V.ref z.1))) { s with heap := PyProof.Rows.sortedHeap h2 h'.objs.size (as.map Value.ref) out.toArray, toks := tk } :=
    I.laid (t' := tk) kS (Nat.le_of_lt hlt) ⟨lts, out, eF, rv, heF⟩
  obtain ⟨H2, I3, g, qt⟩ := L2.DX.takeT (P := fun b vs => ∃ (j : Nat) (e : Int × Int), as[j]? = some b ∧ ps[j]? = some e ∧ vs = [.int e.1, .int e.2]) I as _ I2 nd fun b hb => by
    obtain ⟨j, hj⟩ := List.mem_iff_getElem?.mp hb
    obtain ⟨e, t, u, he, hg⟩ := pr j b hj
    have hbl : s.heap.objs.size ≤ b := Nat.le_of_lt (hG.above b hb)
    refine ⟨hbl, ?_, [.int e.1, .int e.2], ⟨j, e, hj, he, rfl⟩, fun H3 => ⟨(by show 2 ≤ sizeLine; decide), [Value.int e.1 t, Value.int e.2 u], .cons ⟨t, rfl⟩ (.cons ⟨u, rfl⟩ .nil), ⟨_, kF _ _ (ne0 _ _ hg) (ka _ _ hg), rfl, 0, rfl⟩⟩⟩
    rw [upd_ne (ne0 _ _ hg)]
    exact I.hok.fresh hbl
  have gr : ∀ b o, H b = some o → H2 b = some o := fun b o e => g b o (by rw [upd_ne (ne_of_none e hn0)]; exact e)
  refine ⟨.ref h'.objs.size, H2, I3, rfl, q H2 h'.objs.size ts gr hperm hsort hn0 (g _ _ upd_same) fun y hy => ?_⟩
  obtain ⟨i, i1, i2⟩ := idx y hy
  obtain ⟨vs, ⟨j, e, j1, j2, ev⟩, hH⟩ := qt y.1 (List.mem_of_getElem? i1)
  have eij : i = j := (List.getElem?_inj (List.getElem?_eq_some_iff.mp i1).1 nd).mp (i1.trans j1.symm)
  subst eij
  have ee : e = y.2 := Option.some.inj (j2.symm.trans i2)
  rw [ev, ee] at hH
  exact ⟨I.hok.fresh (Nat.le_of_lt (hG.above _ (List.mem_of_getElem? i1))), hH⟩
end
end L2

set_option Elab.async false
set_option linter.all false
set_option maxRecDepth 100000
set_option maxHeartbeats 4000000
namespace R63
open PySem PySem.W PySem.Calls PyProof.Rows PyProof.V PySem.Spec HT
section
variable {prog : Program} {w : World} {A : Around} {E : Value → Shared → Prop} {s : Shared}
/-- t[lo:hi] that is the whole of t is t -/
theorem tup_all {t sl : Addr} {items : Array Value} {vl vu : Value} {lo hi : Option Int} {Q : Value → Shared → Prop} (ht : IsTup s.heap t items) (hs : s.heap.IsSliceOf sl vl vu .none) (pl : IsPart vl lo) (pu : IsPart vu hi)
    (hw : sIx items.size 0 lo = 0 ∧ sIx items.size items.size hi = items.size) (h : Q (.ref t) s) : wpAny (model prog w) A (getItem (.ref t) (.ref sl)) Q E s := by
  obtain ⟨os, hos, hcs, hds⟩ := id hs
  have isS : s.TypeIs (.ref sl) "slice" := ⟨os, hos, hcs⟩
  unfold getItem
  try with_reducible refine wpAny_holding ?_
  first | refine wpAny_bind (wpAny_pure ?_) | skip
  refine wpAny_bind (wpAny_sequenceKey ht.typeIs (by decide) ?_)
  refine wpAny_bind (wpAny_callSpecial?_slot (name := Str.ofString "__getitem__") ht.typeIs PyProof.Rows.slot_tuple_getitem (wpAny_call_entry PyProof.Rows.slot_tuple_getitem ht.typeIs entry_tuple_getitem ?_ (args_tuple_getitem _ _)))
  show wpAny _ _ (Builtin.Tuple.tupleItemsOf (.ref t) >>= _) _ _ s
  refine wpAny_bind (tupleItemsOf_ ht ?_); refine wpAny_bind (wpAny_typeOf isS ?_); rw [if_pos (by decide)]
  refine wpAny_bind (sliceApplied_gen hs pl pu ?_)
  have yes : ((((sIx items.size 0 lo : Nat) : Int) == 0 && (1 : Int) == 1 && (sIx items.size items.size hi - sIx items.size 0 lo) == items.size) = true) := by
    rw [hw.1, hw.2]; simp
  show wpAny _ _ (if (((sIx items.size 0 lo : Nat) : Int) == 0 && (1 : Int) == 1 && (sIx items.size items.size hi - sIx items.size 0 lo) == items.size) = true then _ else _) _ _ s
  rw [if_pos yes]
  refine wpAny_bind (m := Builtin.Tuple.tupleIsExact _) ?_
  unfold Builtin.Tuple.tupleIsExact
  refine wpAny_bind (wpAny_typeOf ht.typeIs (wpAny_pure ?_))
  rw [if_pos (by decide)]
  first
    | exact wpAny_bind (wpAny_rule (wpAny_pure ⟨_, rfl, wpAny_pure h⟩))
    | (refine wpAny_bind (wpAny_rule ?_); exact wpAny_pure ⟨_, rfl, wpAny_pure h⟩)
/-- the places of t[::-1] -/
theorem back_part {sl : Addr} {vl vu vs : Value} {n : Nat} {Q : Int × Int × Nat → Shared → Prop} (hs : s.heap.IsSliceOf sl vl vu vs) (pl : IsPart vl none) (pu : IsPart vu none) (ps : IsPart vs (some (-1)))
    (h : Q ((n : Int) - 1, -1, n) s) : wpAny (model prog w) A (Builtin.Slice.sliceApplied (.ref sl) (pure (n : Int))) Q E s := by
  obtain ⟨os, hos, hcs, hds⟩ := id hs
  unfold Builtin.Slice.sliceApplied Builtin.Slice.sliceFields
  refine wpAny_bind (wpAny_bind (wpAny_field hos hds (x := vl) rfl (wpAny_bind (wpAny_field hos hds (x := vu) rfl (wpAny_bind (wpAny_field hos hds (x := vs) rfl (wpAny_pure ?_)))))))
  refine wpAny_bind (slicePart_ ps ?_)
  show wpAny _ _ (if ((-1 : Int) == 0) = true then _ else _) _ _ s
  rw [if_neg (by decide)]
  refine wpAny_bind (slicePart_ pl (wpAny_bind (slicePart_ pu (wpAny_bind (wpAny_pure ?_)))))
  have e1 : Builtin.Slice.sliceAdjust none none (-1) (n : Int) = ((n : Int) - 1, -1) := rfl
  have e2 : Builtin.Slice.slicePlaces ((n : Int) - 1) (-1) (-1) = n := by
    unfold Builtin.Slice.slicePlaces
    have h1 : ¬ ((-1 : Int) > 0) := by omega
    have e3 : ((n : Int) - 1 - -1 - 1) / (- -1) = (n : Int) - 1 := by rw [show (- -1 : Int) = 1 from rfl, Int.ediv_one]; omega
    simp only [h1, if_false, e3]
    split <;> omega
  show wpAny _ _ (match Builtin.Slice.sliceAdjust none none (-1) (n : Int) with | (lo, hi) => pure (lo, (-1 : Int), Builtin.Slice.slicePlaces lo hi (-1))) _ _ s
  rw [e1]
  show wpAny _ _ (pure ((n : Int) - 1, (-1 : Int), Builtin.Slice.slicePlaces ((n : Int) - 1) (-1) (-1))) _ _ s
  rw [e2]
  exact wpAny_pure h
theorem back_pick (xs : Array Value) : ((List.range xs.size).filterMap fun (m : Nat) => xs[(((xs.size : Int) - 1) + (m : Int) * (-1)).toNat]?) = xs.toList.reverse := by
  refine List.ext_getElem? fun i => ?_
  have hall : ∀ m ∈ List.range xs.size, ∃ v, xs[(((xs.size : Int) - 1) + (m : Int) * (-1)).toNat]? = some v := fun m hm => by
    have hl := List.mem_range.mp hm
    exact ⟨_, Array.getElem?_eq_getElem (by omega)⟩
  have key : ∀ k, k ≤ xs.size → ((List.range k).filterMap fun (m : Nat) => xs[(((xs.size : Int) - 1) + (m : Int) * (-1)).toNat]?) = xs.toList.reverse.take k := by
    intro k
    induction k with
    | zero => intro _; rfl
    | succ k ih =>
      intro hk
      obtain ⟨v, hv⟩ := hall k (List.mem_range.mpr hk)
      rw [List.range_succ, List.filterMap_append, ih (by omega), List.take_add_one]
      congr 1
      rw [List.filterMap_cons, hv, List.getElem?_reverse (by rw [Array.length_toList]; omega)]
      have e3 : (((xs.size : Int) - 1) + (k : Int) * (-1)).toNat = xs.toList.length - 1 - k := by rw [Array.length_toList]; omega
      rw [e3, ← Array.getElem?_toList] at hv
      rw [hv]
      rfl
  rw [key xs.size (Nat.le_refl _), List.take_of_length_le (by simp)]
theorem tup_back {t sl : Addr} {items : Array Value} {vl vu vs : Value} {Q : Value → Shared → Prop} (ht : IsTup s.heap t items) (hs : s.heap.IsSliceOf sl vl vu vs) (pl : IsPart vl none) (pu : IsPart vu none) (ps : IsPart vs (some (-1)))
    (h : Q (.ref s.heap.objs.size) { s with heap := s.heap.push { cls := .type "tuple", data := .seq items.toList.reverse.toArray } }) (hz : items.size ≤ sizeLine) : wpAny (model prog w) A (getItem (.ref t) (.ref sl)) Q E s := by
  obtain ⟨os, hos, hcs, hds⟩ := id hs
  have isS : s.TypeIs (.ref sl) "slice" := ⟨os, hos, hcs⟩
  unfold getItem
  try with_reducible refine wpAny_holding ?_
  first | refine wpAny_bind (wpAny_pure ?_) | skip
  refine wpAny_bind (wpAny_sequenceKey ht.typeIs (by decide) ?_)
  refine wpAny_bind (wpAny_callSpecial?_slot (name := Str.ofString "__getitem__") ht.typeIs PyProof.Rows.slot_tuple_getitem (wpAny_call_entry PyProof.Rows.slot_tuple_getitem ht.typeIs entry_tuple_getitem ?_ (args_tuple_getitem _ _)))
  show wpAny _ _ (Builtin.Tuple.tupleItemsOf (.ref t) >>= _) _ _ s
  refine wpAny_bind (tupleItemsOf_ ht ?_); refine wpAny_bind (wpAny_typeOf isS ?_); rw [if_pos (by decide)]
  refine wpAny_bind (back_part hs pl pu ps ?_)
  show wpAny _ _ (if ((((items.size : Int) - 1) == 0 && (-1 : Int) == 1 && items.size == items.size) = true) then _ else _) _ _ s
  rw [if_neg (by simp), back_pick]
  have hz2 : sizeOk (.seq items.toList.reverse.toArray) := by
    show items.toList.reverse.toArray.size ≤ sizeLine
    simpa using hz
  first
    | exact wpAny_bind (m := Builtin.Tuple.tupleExact _) (wpAny_newObj_type (wpAny_pure ⟨_, rfl, wpAny_pure h⟩) hz2)
    | exact wpAny_bind (m := Builtin.Tuple.tupleExact _) (wpAny_newObj_type (wpAny_bind (wpAny_pure (wpAny_pure ⟨_, rfl, wpAny_pure h⟩))) hz2)
    | exact wpAny_bind (wpAny_bind (m := Builtin.Tuple.tupleExact _) (wpAny_newObj_type (wpAny_pure (wpAny_pure ⟨_, rfl, wpAny_pure h⟩)) hz2))
    | exact wpAny_bind (wpAny_bind (m := Builtin.Tuple.tupleExact _) (wpAny_newObj_type (wpAny_pure ⟨_, rfl, wpAny_pure h⟩) hz2))
end
end R63

set_option Elab.async false
set_option linter.all false
set_option maxRecDepth 100000
set_option maxHeartbeats 4000000
/-! tuples whose own object is known (no dict of its own), as dict(..) wants them -/
namespace L2
open PySem PySem.Spec PyProof.Rows
def TupF (H : Hp) (a : Addr) (xs : List V) : Prop := ∃ o : Obj, H a = some (.frz o (.tup xs)) ∧ o.dict = none
theorem TupF.sq {K : PySem.W.Frag} {H : Hp} {a : Addr} {xs : List V} (h : TupF H a xs) : SqT K H a xs := let ⟨o, e, _⟩ := h; .inl (.inr ⟨o, e⟩)
def NewF (H : Hp) (xs : List V) (Q : VK) : Prop := ∀ (p : Addr) (o : Obj), H p = none → o.dict = none → Q (.ref p) (upd H p (.frz o (.tup xs)))
/-- a tuple's slice: the tuple itself where it is the whole -/
def rSlF (K : PySem.W.Frag) : V → Option Int → Option Int → Hp → VK → Prop := fun x lo hi H Q => ∃ a xs, x = .ref a ∧ SqT K H a xs ∧ ((HT.sIx xs.length 0 lo = 0 ∧ HT.sIx xs.length xs.length hi = xs.length → Q (.ref a) H) ∧
    (¬ (HT.sIx xs.length 0 lo = 0 ∧ HT.sIx xs.length xs.length hi = xs.length) → NewF H (cutV xs lo hi) Q))
section
variable {X : Cx}
/-- a new tuple laid, its object known -/
theorem laidF {pins : List (Addr × Obj)} {σ : St} {H : Hp} {s : Shared} {xs : List V} {us : List Value} {Q : VK} (I : Inv X pins σ H s) (r : Vals xs us) (hz : xs.length ≤ sizeLine) (q : NewF H xs Q) :
    EP X pins σ Q (.ref s.heap.objs.size) { s with heap := s.heap.push { cls := .type "tuple", data := .seq us.toArray } } :=
  ⟨.ref s.heap.objs.size, _, I.laid (t' := s.toks) (o := .frz { cls := .type "tuple", data := .seq us.toArray } (.tup xs)) (fun b ob q => Heap.get?_push_of_some _ q) (Nat.le_refl _)
    ⟨Heap.get?_push_size _ rfl, hz, us, r, IsTup.new _ _⟩, rfl, q _ _ (I.hok.fresh (Nat.le_refl _)) rfl⟩
theorem call_tupleF : CallR X (.type "tuple") (fun xs H Q => ∃ p ys, xs = [.ref p] ∧ SqL X.K H p ys ∧ NewF H ys Q) := by
  intro pins s σ H xs us Q I r h
  obtain ⟨p, ys, rfl, hq, q⟩ := h
  obtain ⟨u, rfl, rx⟩ := vals1 r
  cases rx
  obtain ⟨its, r', pl, hz⟩ := I.list hq
  have hlen := r'.length
  refine call_tuple_list pl.isList (fun h' kp => ?_) (by simp only [List.size_toArray] <;> omega)
  exact laidF (I.kept (t' := s.toks) kp) r' hz q
theorem sl_tupF : SlR X (rSlF X.K) := by
  intro pins s σ H x v vl vu lo hi sl Q I rx hs pl pu h
  obtain ⟨a, xs, rfl, hx, q1, q2⟩ := h
  cases rx
  obtain ⟨its, r, ht, hz⟩ := I.tuple hx
  have hlen : its.toArray.size = xs.length := by rw [List.size_toArray]; exact r.length.symm
  refine ⟨"tuple", _, PyProof.Rows.slot_tuple_getitem.lookup, ht.typeIs, ?_⟩
  by_cases hw : HT.sIx xs.length 0 lo = 0 ∧ HT.sIx xs.length xs.length hi = xs.length
  · exact R63.tup_all ht hs pl pu (by rw [hlen]; exact hw) ⟨.ref a, H, I, rfl, q1 hw⟩
  · refine HT.getItem_tuple_cut ht hs pl pu (by rw [hlen]; exact hw) ?_ (by rw [hlen]; exact hz)
    rw [hlen]
    exact laidF I ((r.drop (HT.sIx xs.length 0 lo)).take (HT.sIx xs.length xs.length hi - HT.sIx xs.length 0 lo)) (Nat.le_trans (cutV_length xs lo hi) hz) (q2 hw)
theorem op_catF : OpR X (binaryOp .Add) (fun x y H Q => ∃ a b xs ys, x = .ref a ∧ y = .ref b ∧ SqT X.K H a xs ∧ SqT X.K H b ys ∧ xs ≠ [] ∧ xs.length + ys.length ≤ sizeLine ∧ (ys = [] → Q (.ref a) H) ∧ (ys ≠ [] → NewF H (xs ++ ys) Q)) := by
  intro pins s σ H x y v u Q I rx ry h
  obtain ⟨a, b, xs, ys, rfl, rfl, ha, hb, hx, hz, q1, q2⟩ := h
  cases rx; cases ry
  obtain ⟨its, r1, p1, _⟩ := I.tuple ha
  obtain ⟨its2, r2, p2, _⟩ := I.tuple hb
  refine HT.cat_tup p1 p2 (fun z => hx (r1.nil_iff.mp z)) (fun z => ⟨.ref a, H, I, rfl, q1 (r2.nil_iff.mp z)⟩) (fun z => ?_) (by rw [← r1.length, ← r2.length]; exact hz)
  exact laidF I (r1.append r2) (by rw [List.length_append]; exact hz) (q2 fun w => z (r2.nil_iff.mpr w))
def tTupF (t : TA) : TE := fun σ H Q => t σ H fun xs H1 => xs.length ≤ sizeLine ∧ NewF H1 xs Q
theorem pe_tupF {es : List Expr} {t : TA} {pos : Pos} {x1} (h : PA X es t) : PE X (.Tuple es x1 pos) (tTupF t) := by
  refine ⟨fun pins s σ H Q I hq => ?_⟩
  refine wpAny_Tuple_spliced (thn (h.run pos pins s σ H _ I hq) fun us s1 ⟨xs, H1, I1, r, z, q⟩ => ⟨by rw [← r.length]; exact z, ?_⟩)
  exact laidF I1 r z q
def tBackF (K : PySem.W.Frag) (te : TE) : TE := fun σ H Q => te σ H fun x H1 => ∃ a xs, x = .ref a ∧ SqT K H1 a xs ∧ NewF H1 xs.reverse Q
theorem pe_backF {e : Expr} {te : TE} {k : Nat} {p1 p2 p3 pos : Pos} (he : PE X e te) : PE X (.Subscript e (.Slice none none (some (.UnaryOp .USub (.Constant (.int 1) k p1) p2)) p3) pos) (tBackF X.K te) := by
  refine ⟨fun pins s σ H Q I h => ?_⟩
  refine Subscript_ (thn (he.run pins s σ H _ I h) fun v s1 ⟨x, H1, I1, r1, q1⟩ => ?_)
  obtain ⟨a, xs, ex, hx, q⟩ := q1
  subst ex
  cases r1
  have hst : PO X (some (.UnaryOp .USub (.Constant (.int 1) k p1) p2)) (tPart (tUn (rU fun i => .int (-i)) (tC (.int 1)))) := po_some (pe_un un_neg pe_int)
  refine wpAny_Slice (thn (po_none.run pins s1 σ H1 (fun o H2 => o = none ∧ H2 = H1) I1 ⟨rfl, rfl⟩) fun vl s2 ⟨l, H2, I2, pl, el, e2⟩ => ?_)
  subst el e2
  refine thn (po_none.run pins s2 σ H2 (fun o H3 => o = none ∧ H3 = H2) I2 ⟨rfl, rfl⟩) fun vu s3 ⟨u, H3, I3, pu, eu, e3⟩ => ?_
  subst eu e3
  refine thn (hst.run pins s3 σ H3 (fun o H4 => o = some (-1) ∧ H4 = H3) I3 ⟨1, rfl, -1, rfl, rfl, rfl⟩) fun vs s4 ⟨o, H4, I4, ps, eo, e4⟩ => ?_
  subst eo e4
  have I5 : Inv X pins σ H4 { s4 with heap := s4.heap.push { cls := .type "slice", data := .fields #[vl, vu, vs] } } := I4.kept (t' := s4.toks) fun b ob q => Heap.get?_push_of_some _ q
  obtain ⟨its, r, ht, hz⟩ := I5.tuple hx
  have hlen := r.length
  show wpAny (model X.prog X.w) X.A (subscriptTail e (.Slice none none (some (.UnaryOp .USub (.Constant (.int 1) k p1) p2)) p3) (.ref a) (.ref s4.heap.objs.size)) (EP X pins σ Q) X.xe { s4 with heap := s4.heap.push { cls := .type "slice", data := .fields #[vl, vu, vs] } }
  refine tail_any (ops := [.ref a, .ref s4.heap.objs.size]) ht.typeIs PyProof.Rows.slot_tuple_getitem.lookup ?_ (by with_unfolding_all rfl)
  refine R63.tup_back ht (Heap.IsSliceOf.new _ vl vu vs) pl pu ps ?_ (by rw [List.size_toArray]; omega)
  exact laidF I5 r.reverse (by rw [List.length_reverse]; exact hz) q
/-- the pairs' own values -/
theorem pairs_kk {pins : List (Addr × Obj)} {σ : St} {H : Hp} {s : Shared} (I : Inv X pins σ H s) : ∀ {ps : List Addr} {kvs : List (Key × V)}, Paired (fun p kv => SqT X.K H p [kV kv.1, kv.2]) ps kvs →
    ∃ (prs : List (Key × Value)) (kk : List (Value × Value)), KV kvs prs ∧ prs.length = ps.length ∧ kk.length = ps.length ∧
      ∀ (j : Nat) (k v : Value), kk[j]? = some (k, v) → ∃ (b : Addr) (q : Key), ps[j]? = some b ∧ prs[j]? = some (q, v) ∧ IsTup s.heap b #[k, v] ∧ keyIs q k = true
  | _, _, .nil => ⟨[], [], .nil, rfl, rfl, fun j k v e => by simp at e⟩
  | _, _, .cons (a := p) (b := kv) h t => by
    obtain ⟨prs, kk, r, hl, hk, hp⟩ := pairs_kk I t
    obtain ⟨its, rv, ht, _⟩ := I.tuple h
    obtain ⟨u, y, rfl, ru, ry⟩ := vals2 rv
    have hu : keyIs kv.1 u = true := by
      rcases kv with ⟨i | x, w⟩
      · obtain ⟨t, rfl⟩ := ru; exact keyIs_int i t
      · obtain ⟨t, rfl⟩ := ru; exact keyIs_str x t
    refine ⟨(kv.1, y) :: prs, (u, y) :: kk, .cons ⟨rfl, ry⟩ r, by simp [hl], by simp [hk], fun j k v e => ?_⟩
    cases j with
    | zero =>
      have e1 : (u, y) = (k, v) := Option.some.inj e
      cases e1
      exact ⟨p, kv.1, rfl, rfl, ht, hu⟩
    | succ j => exact hp j k v e
/-- dict(t), t a tuple of pairs -/
theorem call_dictF (hcalm : X.calm = true) : CallR X (.type "dict") (fun xs H Q => ∃ (a : Addr) (ps : List Addr) (kvs : List (Key × V)), xs = [.ref a] ∧ TupF H a (ps.map V.ref) ∧ Paired (fun p kv => SqT X.K H p [kV kv.1, kv.2]) ps kvs ∧
    ∀ p, H p = none → Q (.ref p) (upd H p (.dK (mergeK [] kvs)))) := by
  intro pins s σ H xs us Q I r q
  obtain ⟨a, ps, kvs, rfl, ⟨o, ho, hd⟩, hp, q⟩ := q
  obtain ⟨u, rfl, rx⟩ := vals1 r
  cases rx
  obtain ⟨hob, hz, its, rv, o', ho', hc, n, hdat⟩ := I.hok a _ ho
  cases hob.symm.trans ho'
  obtain rfl := refs_at rv
  rw [List.length_map] at hz
  obtain ⟨prs, kk, rel, hl, hkl, hkk⟩ := pairs_kk I hp
  have items : PySem.PairItems s.heap (ps.map Value.ref).toArray (fun j => ps.getD j 0) kk := by
    refine ⟨by simp [hkl], fun j k v e => ?_⟩
    obtain ⟨b, q, e1, _, e3, _⟩ := hkk j k v e
    have eg : ps.getD j 0 = b := by rw [List.getD_eq_getElem?_getD, e1]; rfl
    show (List.map Value.ref ps).toArray[j]? = some (Value.ref (ps.getD j 0)) ∧ PairAt s.heap (ps.getD j 0) k v
    rw [eg]
    refine ⟨by simp [e1], .inl ?_⟩
    obtain ⟨o3, h3, c3, n3, d3⟩ := e3
    exact ⟨o3, h3, c3, n3, d3⟩
  refine PySem.call_dict_pairs (knd := mixKind X.prog X.w) (kvs := prs) (PySem.PairArg.tuple a (ps.map Value.ref).toArray (fun j => ps.getD j 0) kk) (I.ok.hd hcalm) ⟨⟨o, n, ho', hc, hd, hdat⟩, items⟩ ⟨by rw [hl, hkl], fun i key v e => ?_⟩ (by rw [hkl]; exact hz) fun h' tk hd' k => ?_
  · obtain ⟨b, q, e1, e2, e3, e4⟩ := hkk i key v e
    exact ⟨q, e2, e4⟩
  · have hm : (s.heap.objs.size == sysModules) = false := beq_eq_false_iff_ne.mpr (Nat.ne_of_gt I.big)
    have hlen : (mergeK [] kvs).length ≤ sizeLine := by
      refine Nat.le_trans (length_mergeK kvs []) ?_
      rw [List.length_nil, Nat.zero_add, rel.length, hl]
      exact hz
    exact ⟨.ref s.heap.objs.size, upd H s.heap.objs.size (.dK (mergeK [] kvs)), I.laid (t' := tk) (fun b ob e => k b ob (by simp) e) (Nat.le_refl _) (show ObjOk X.prog X.w _ _ _ (.dK (mergeK [] kvs)) from ⟨hlen, hm, merged [] prs, KV.merge rel .nil, hd'⟩), rfl, q _ (I.hok.fresh (Nat.le_refl _))⟩
end
end L2

set_option Elab.async false
set_option linter.all false
set_option maxRecDepth 100000
/-! k63, the plain law: rows of cells, what is come to, a collection's outcome -/
namespace K63
abbrev Rows := List (List Int)
def row (L : Rows) (j : Nat) : List Int := L.getD j []
def ln (L : Rows) (j : Nat) : Nat := (row L j).length
def st (L : Rows) (i : Nat) : Nat := ((L.take i).map List.length).sum
def VOk (L : Rows) (v : Int) : Prop := v < 10000 ∨ ∃ j, j < L.length ∧ v = 10000 + (st L j : Nat)
structure Wf (L : Rows) : Prop where
  many : L.length ≤ 8
  size : ∀ j, j < L.length → 3 ≤ ln L j ∧ ln L j ≤ 6
  third : ∀ j, j < L.length → (row L j)[2]? = some ((ln L j - 3 : Nat) : Int)
  kind : ∀ j, j < L.length → (row L j)[0]? ≠ some 9
  refs : ∀ j, j < L.length → ∀ v ∈ (row L j).drop 3, VOk L v
theorem row_get {L : Rows} {j : Nat} (h : j < L.length) : L[j]? = some (row L j) := by
  unfold row; rw [List.getD_eq_getElem?_getD, List.getElem?_eq_getElem h]; rfl
theorem st_zero (L : Rows) : st L 0 = 0 := rfl
theorem st_succ {L : Rows} {j : Nat} (h : j < L.length) : st L (j + 1) = st L j + ln L j := by
  unfold st ln
  rw [List.take_succ, row_get h, List.map_append, List.sum_append]
  simp
theorem st_full (L : Rows) : st L L.length = L.flatten.length := by
  unfold st; rw [List.take_length, List.length_flatten]
theorem st_mono {L : Rows} : ∀ {j i : Nat}, i ≤ j → j ≤ L.length → st L i ≤ st L j
  | 0, i, h, _ => by rw [Nat.le_zero.mp h]; exact Nat.le_refl _
  | j + 1, i, h, h2 => by
    rcases Nat.lt_or_ge i (j + 1) with h3 | h3
    · have := st_mono (L := L) (j := j) (i := i) (by omega) (by omega)
      rw [st_succ (show j < L.length by omega)]; omega
    · rw [show i = j + 1 by omega]; exact Nat.le_refl _
theorem st_end {L : Rows} {i j : Nat} (h : i < j) (hj : j ≤ L.length) : st L i + ln L i ≤ st L j := by
  rw [← st_succ (show i < L.length by omega)]; exact st_mono h hj
theorem st_lt {L : Rows} (w : Wf L) {i j : Nat} (h : i < j) (hj : j ≤ L.length) : st L i < st L j := by
  have h1 := st_end h hj
  have h2 := (w.size i (by omega)).1
  omega
theorem st_inj {L : Rows} (w : Wf L) {i j : Nat} (hi : i < L.length) (hj : j < L.length) (h : st L i = st L j) : i = j := by
  rcases Nat.lt_trichotomy i j with h1 | h1 | h1
  · have := st_lt w h1 (by omega); omega
  · exact h1
  · have := st_lt w h1 (by omega); omega
theorem st_in {L : Rows} {j : Nat} (h : j < L.length) : st L j + ln L j ≤ L.flatten.length := by
  rw [← st_full]; exact st_end h (Nat.le_refl _)
theorem st_apart {L : Rows} {i j a b : Nat} (hi : i < L.length) (hj : j < L.length) (ha : a < ln L i) (hb : b < ln L j) (h : st L i + a = st L j + b) : i = j := by
  rcases Nat.lt_trichotomy i j with h1 | h1 | h1
  · have := st_end h1 (L := L) (by omega); omega
  · exact h1
  · have := st_end h1 (L := L) (by omega); omega
theorem flat_get : ∀ {L : Rows} {j i : Nat}, j < L.length → i < ln L j → L.flatten[st L j + i]? = (row L j)[i]?
  | [], j, i, h, _ => absurd h (Nat.not_lt_zero _)
  | r :: L, 0, i, _, h2 => by
    have e : row (r :: L) 0 = r := rfl
    have h3 : i < r.length := h2
    rw [st_zero, Nat.zero_add, List.flatten_cons, e, List.getElem?_append_left h3]
  | r :: L, j + 1, i, h, h2 => by
    have e : row (r :: L) (j + 1) = row L j := rfl
    have es : st (r :: L) (j + 1) = r.length + st L j := by unfold st; simp
    rw [es, List.flatten_cons, e, List.getElem?_append_right (by omega)]
    rw [show r.length + st L j + i - r.length = st L j + i by omega]
    exact flat_get (by simpa using h) h2
theorem flat_cut {L : Rows} {j a n : Nat} (h : j < L.length) (hn : a + n ≤ ln L j) : (L.flatten.drop (st L j + a)).take n = ((row L j).drop a).take n := by
  apply List.ext_getElem?
  intro i
  rcases Nat.lt_or_ge i n with h1 | h1
  · rw [List.getElem?_take_of_lt h1, List.getElem?_take_of_lt h1, List.getElem?_drop, List.getElem?_drop, Nat.add_assoc]
    exact flat_get h (by omega)
  · rw [List.getElem?_eq_none (by rw [List.length_take]; omega), List.getElem?_eq_none (by rw [List.length_take]; omega)]
theorem flat_row {L : Rows} {j : Nat} (h : j < L.length) : (L.flatten.drop (st L j)).take (ln L j) = row L j := by
  have e := flat_cut (L := L) (j := j) (a := 0) (n := ln L j) h (by omega)
  rw [Nat.add_zero, List.drop_zero] at e
  rw [e]; exact List.take_length
theorem flat_third {L : Rows} (w : Wf L) {j : Nat} (h : j < L.length) : L.flatten[st L j + 2]? = some ((ln L j - 3 : Nat) : Int) := by
  rw [flat_get h (by have := (w.size j h).1; omega)]; exact w.third j h
theorem flat_small {L : Rows} (w : Wf L) : L.flatten.length ≤ 48 := by
  have key : ∀ k, k ≤ L.length → st L k ≤ 6 * k := by
    intro k
    induction k with
    | zero => intro _; rw [st_zero]; omega
    | succ k ih =>
      intro h
      have h1 := ih (by omega)
      have h2 := (w.size k (by omega)).2
      rw [st_succ (show k < L.length by omega)]; omega
  have h1 := key L.length (Nat.le_refl _)
  have h2 := w.many
  rw [st_full] at h1; omega
/-! what is come to -/
inductive Rc (L : Rows) (roots : List Int) : Nat → Prop
  | root {j : Nat} : j < L.length → (10000 + (st L j : Nat) : Int) ∈ roots → Rc L roots j
  | step {i j : Nat} : Rc L roots i → i < L.length → j < L.length → (10000 + (st L j : Nat) : Int) ∈ (row L i).drop 3 → Rc L roots j
theorem Rc.lt {L : Rows} {roots : List Int} {j : Nat} (h : Rc L roots j) : j < L.length := by
  cases h with
  | root h => exact h
  | step _ _ h => exact h
theorem Rc.closed {L : Rows} {roots : List Int} {S : Nat → Prop} (h0 : ∀ j, j < L.length → (10000 + (st L j : Nat) : Int) ∈ roots → S j)
    (h1 : ∀ i j, S i → i < L.length → j < L.length → (10000 + (st L j : Nat) : Int) ∈ (row L i).drop 3 → S j) {j : Nat} (h : Rc L roots j) : S j := by
  induction h with
  | root a b => exact h0 _ a b
  | step _ a b c ih => exact h1 _ _ ih a b c
def Rch (L : Rows) (roots : List Int) (ys : List Int) : Prop := ys.Pairwise (· < ·) ∧ ∀ y : Int, y ∈ ys ↔ ∃ j, Rc L roots j ∧ y = (st L j : Nat)
theorem Rch.uniq {L : Rows} {roots ys zs : List Int} (h1 : Rch L roots ys) (h2 : Rch L roots zs) : ys = zs := by
  have n1 : ys.Nodup := List.Pairwise.imp (fun h => Int.ne_of_lt h) h1.1
  have n2 : zs.Nodup := List.Pairwise.imp (fun h => Int.ne_of_lt h) h2.1
  exact List.Perm.eq_of_pairwise (le := (· < ·)) (fun a b _ _ h h' => by omega) h1.1 h2.1 ((List.perm_ext_iff_of_nodup n1 n2).mpr fun a => (h1.2 a).trans (h2.2 a).symm)
theorem sorted_strict {ys : List Int} (h : ys.Pairwise (· ≤ ·)) (n : ys.Nodup) : ys.Pairwise (· < ·) := by
  have := List.pairwise_and_iff.mpr ⟨h, n⟩
  exact List.Pairwise.imp (fun ⟨a, b⟩ => by omega) this
/-! rows that tell alike -/
inductive Al {α β : Type} (R : α → β → Prop) : List α → List β → Prop
  | nil : Al R [] []
  | cons {a b as bs} : R a b → Al R as bs → Al R (a :: as) (b :: bs)
theorem Al.mono {α β : Type} {R R' : α → β → Prop} (h : ∀ a b, R a b → R' a b) : ∀ {as : List α} {bs : List β}, Al R as bs → Al R' as bs
  | _, _, .nil => .nil
  | _, _, .cons x t => .cons (h _ _ x) (t.mono h)
theorem Al.monoM {α β : Type} {R R' : α → β → Prop} : ∀ {as : List α} {bs : List β}, (∀ a ∈ as, ∀ b, R a b → R' a b) → Al R as bs → Al R' as bs
  | _, _, _, .nil => .nil
  | _, _, h, .cons x t => .cons (h _ (List.mem_cons_self) _ x) (t.monoM fun a ha => h a (List.mem_cons_of_mem _ ha))
theorem Al.len {α β : Type} {R : α → β → Prop} : ∀ {as : List α} {bs : List β}, Al R as bs → as.length = bs.length
  | _, _, .nil => rfl
  | _, _, .cons _ t => by simp [t.len]
theorem Al.app {α β : Type} {R : α → β → Prop} : ∀ {as : List α} {bs : List β} {cs : List α} {ds : List β}, Al R as bs → Al R cs ds → Al R (as ++ cs) (bs ++ ds)
  | _, _, _, _, .nil, h => h
  | _, _, _, _, .cons x t, h => .cons x (t.app h)
theorem Al.snoc {α β : Type} {R : α → β → Prop} {as : List α} {bs : List β} {a : α} {b : β} (h : Al R as bs) (x : R a b) : Al R (as ++ [a]) (bs ++ [b]) := h.app (.cons x .nil)
theorem Al.get {α β : Type} {R : α → β → Prop} : ∀ {as : List α} {bs : List β} {i : Nat} {a : α}, Al R as bs → as[i]? = some a → ∃ b, bs[i]? = some b ∧ R a b
  | _, _, _, _, .nil, h => by simp at h
  | _, _, 0, _, .cons x t, h => by
    have e := Option.some.inj h
    subst e
    exact ⟨_, rfl, x⟩
  | _, _, i + 1, _, .cons x t, h => by
    have h' := t.get (i := i) (by simpa using h)
    simpa using h'
theorem Al.getR {α β : Type} {R : α → β → Prop} : ∀ {as : List α} {bs : List β} {i : Nat} {b : β}, Al R as bs → bs[i]? = some b → ∃ a, as[i]? = some a ∧ R a b
  | _, _, _, _, .nil, h => by simp at h
  | _, _, 0, _, .cons x t, h => by
    have e := Option.some.inj h
    subst e
    exact ⟨_, rfl, x⟩
  | _, _, i + 1, _, .cons x t, h => by
    have h' := t.getR (i := i) (by simpa using h)
    simpa using h'
theorem Al.fmap {α β : Type} {R : α → β → Prop} {f : α → β} : ∀ {as : List α} {bs : List β}, Al R as bs → (∀ a ∈ as, ∀ b, R a b → b = f a) → bs = as.map f
  | _, _, .nil, _ => rfl
  | _, _, .cons x t, h => by rw [h _ List.mem_cons_self _ x, t.fmap fun a ha => h a (List.mem_cons_of_mem _ ha)]; rfl
/-! collecting -/
def place (L : Rows) (ord : List Nat) (j : Nat) : Nat := ((ord.take (ord.idxOf j)).map (ln L)).sum
def tot (L : Rows) (ord : List Nat) : Nat := (ord.map (ln L)).sum
def Tr (L : Rows) (ord : List Nat) (v w : Int) : Prop := (v < 10000 ∧ w = v) ∨ ∃ j, j ∈ ord ∧ j < L.length ∧ v = 10000 + (st L j : Nat) ∧ w = 10000 + (place L ord j : Nat)
theorem place_app {L : Rows} {ord more : List Nat} {j : Nat} (h : j ∈ ord) : place L (ord ++ more) j = place L ord j := by
  unfold place
  rw [List.idxOf_append, if_pos h, List.take_append_of_le_length (Nat.le_of_lt (List.idxOf_lt_length_iff.mpr h))]
theorem place_new {L : Rows} {ord : List Nat} {j : Nat} (h : j ∉ ord) : place L (ord ++ [j]) j = tot L ord := by
  unfold place tot
  rw [List.idxOf_append, if_neg h]
  simp
theorem Tr.app {L : Rows} {ord more : List Nat} {v w : Int} (h : Tr L ord v w) : Tr L (ord ++ more) v w := by
  rcases h with h | ⟨j, h1, h2, h3, h4⟩
  · exact .inl h
  · exact .inr ⟨j, List.mem_append_left _ h1, h2, h3, by rw [place_app h1]; exact h4⟩
def TRow (L : Rows) (ord : List Nat) (j : Nat) (r : List Int) : Prop := ∃ ws, r = (row L j).take 3 ++ ws ∧ Al (Tr L ord) ((row L j).drop 3) ws
theorem TRow.app {L : Rows} {ord more : List Nat} {j : Nat} {r : List Int} : TRow L ord j r → TRow L (ord ++ more) j r
  | ⟨ws, e, h⟩ => ⟨ws, e, h.mono fun _ _ x => x.app⟩
theorem TRow.len {L : Rows} (w : Wf L) {ord : List Nat} {j : Nat} {r : List Int} (hj : j < L.length) : TRow L ord j r → r.length = ln L j
  | ⟨ws, e, h⟩ => by
    have h1 := h.len
    have h2 := (w.size j hj).1
    unfold ln at h2 ⊢
    rw [List.length_drop] at h1
    rw [e, List.length_append, List.length_take]; omega
/-- one value turned: the order behind it, what is put behind the new row -/
def Visit (L : Rows) (ord : List Nat) (v : Int) (ord' : List Nat) (ext : List Int) (w : Int) : Prop :=
  (v < 10000 ∧ w = v ∧ ord' = ord ∧ ext = []) ∨ ∃ j, j < L.length ∧ v = 10000 + (st L j : Nat) ∧ w = 10000 + (place L ord' j : Nat) ∧ ((j ∈ ord ∧ ord' = ord ∧ ext = []) ∨ (j ∉ ord ∧ ord' = ord ++ [j] ∧ ext = row L j))
theorem Visit.tr {L : Rows} {ord ord' : List Nat} {v w : Int} {ext : List Int} (h : Visit L ord v ord' ext w) : Tr L ord' v w := by
  rcases h with ⟨h1, h2, _⟩ | ⟨j, h1, h2, h3, h4⟩
  · exact .inl ⟨h1, h2⟩
  · refine .inr ⟨j, ?_, h1, h2, h3⟩
    rcases h4 with ⟨a, b, _⟩ | ⟨a, b, _⟩ <;> rw [b]
    · exact a
    · simp
theorem Visit.pre {L : Rows} {ord ord' : List Nat} {v w : Int} {ext : List Int} (h : Visit L ord v ord' ext w) : ∃ more, ord' = ord ++ more ∧ ext = (more.map (row L)).flatten ∧ (∀ j ∈ more, j ∉ ord ∧ j < L.length ∧ v = 10000 + (st L j : Nat)) ∧ more.Nodup := by
  rcases h with ⟨h1, h2, h3, h4⟩ | ⟨j, h1, h2, h3, ⟨_, b, c⟩ | ⟨a, b, c⟩⟩
  · exact ⟨[], by simp [h3], by simp [h4], by simp, by simp⟩
  · exact ⟨[], by simp [b], by simp [c], by simp, by simp⟩
  · exact ⟨[j], b, by simp [c], by simp only [List.mem_singleton]; rintro _ rfl; exact ⟨a, h1, h2⟩, by simp⟩
structure Ordr (L : Rows) (roots : List Int) (ord : List Nat) : Prop where
  nd : ord.Nodup
  rc : ∀ j ∈ ord, Rc L roots j
theorem Ordr.visit {L : Rows} {roots : List Int} {ord ord' : List Nat} {v w : Int} {ext : List Int} (o : Ordr L roots ord) (h : Visit L ord v ord' ext w)
    (r : ∀ j, j < L.length → v = 10000 + (st L j : Nat) → Rc L roots j) : Ordr L roots ord' := by
  obtain ⟨more, rfl, _, hm, hn⟩ := h.pre
  refine ⟨List.nodup_append.mpr ⟨o.nd, hn, fun a ha b hb e => (hm b hb).1 (e ▸ ha)⟩, fun j hj => ?_⟩
  rcases List.mem_append.mp hj with h1 | h1
  · exact o.rc j h1
  · exact r j (hm j h1).2.1 (hm j h1).2.2
theorem Ordr.len {L : Rows} {roots : List Int} {ord : List Nat} (o : Ordr L roots ord) : ord.length ≤ L.length := by
  have h := List.Nodup.length_le_of_subset (l₂ := List.range L.length) o.nd fun j hj => List.mem_range.mpr (o.rc j hj).lt
  rwa [List.length_range] at h
theorem tot_small {L : Rows} (w : Wf L) {ord : List Nat} (h : ∀ j ∈ ord, j < L.length) : tot L ord ≤ 6 * ord.length := by
  induction ord with
  | nil => simp [tot]
  | cons j t ih =>
    have h1 := ih fun k hk => h k (List.mem_cons_of_mem _ hk)
    have h2 := (w.size j (h j List.mem_cons_self)).2
    simp only [tot, List.map_cons, List.sum_cons, List.length_cons] at h1 ⊢
    omega
structure Coll (L : Rows) (roots : List Int) (ord : List Nat) (O : Rows) (bh : List Int) : Prop where
  o : Ordr L roots ord
  rows : Al (TRow L ord) ord O
  bh : Al (Tr L ord) roots bh
end K63

set_option Elab.async false
set_option linter.all false
set_option maxRecDepth 100000
namespace K63
theorem Al.rowOf {L : Rows} {ord od : List Nat} {O : Rows} (h : Al (TRow L ord) od O) {k : Nat} (hk : k < O.length) : ∃ j, od[k]? = some j ∧ TRow L ord j (row O k) := h.getR (row_get hk)
theorem Al.st_eq {L : Rows} (w : Wf L) {ord : List Nat} : ∀ {od : List Nat} {O : Rows}, Al (TRow L ord) od O → (∀ j ∈ od, j < L.length) → ∀ k, st O k = ((od.take k).map (ln L)).sum
  | _, _, .nil, _, k => by simp [st]
  | _, _, .cons (a := j) (b := r) (as := od) (bs := O) x t, h, 0 => by simp [st]
  | _, _, .cons (a := j) (b := r) (as := od) (bs := O) x t, h, k + 1 => by
    have ih := t.st_eq w (fun i hi => h i (List.mem_cons_of_mem _ hi)) k
    have e := x.len w (h j List.mem_cons_self)
    unfold st at ih ⊢
    simp only [List.take_succ_cons, List.map_cons, List.sum_cons, ih, e]
theorem Ordr.lt {L : Rows} {roots : List Int} {ord : List Nat} (o : Ordr L roots ord) : ∀ j ∈ ord, j < L.length := fun j h => (o.rc j h).lt
namespace Coll
variable {L O : Rows} {roots bh : List Int} {ord : List Nat}
theorem olen (c : Coll L roots ord O bh) : O.length = ord.length := c.rows.len.symm
theorem rowk (c : Coll L roots ord O bh) {k j : Nat} (h : ord[k]? = some j) : TRow L ord j (row O k) := by
  have hk : k < O.length := by rw [c.olen]; exact (List.getElem?_eq_some_iff.mp h).1
  obtain ⟨i, hi, r⟩ := c.rows.rowOf hk
  rw [h] at hi
  rw [Option.some.inj hi]; exact r
theorem lnk (w : Wf L) (c : Coll L roots ord O bh) {k j : Nat} (h : ord[k]? = some j) : ln O k = ln L j :=
  (c.rowk h).len w (c.o.lt j (List.mem_of_getElem? h))
theorem stk (w : Wf L) (c : Coll L roots ord O bh) (k : Nat) : st O k = ((ord.take k).map (ln L)).sum := c.rows.st_eq w c.o.lt k
theorem place_st (w : Wf L) (c : Coll L roots ord O bh) {j : Nat} : place L ord j = st O (ord.idxOf j) := (c.stk w _).symm
theorem total (w : Wf L) (c : Coll L roots ord O bh) : O.flatten.length = tot L ord := by
  rw [← st_full, c.stk w, c.olen, List.take_length]; rfl
theorem mem (w : Wf L) (c : Coll L roots ord O bh) {j : Nat} : j ∈ ord ↔ Rc L roots j := by
  have tr : ∀ {v u : Int} {j : Nat}, j < L.length → v = 10000 + (st L j : Nat) → Tr L ord v u → j ∈ ord := by
    intro v u j hj hv h
    rcases h with ⟨h, _⟩ | ⟨i, hi, hil, h, _⟩
    · omega
    · have e := st_inj w hj hil (by omega)
      rw [e]; exact hi
  refine ⟨c.o.rc j, fun h => Rc.closed (S := fun j => j ∈ ord) (fun j hj hm => ?_) (fun i j hi hil hj hm => ?_) h⟩
  · obtain ⟨k, hk⟩ := List.mem_iff_getElem?.mp hm
    obtain ⟨u, _, hu⟩ := c.bh.get hk
    exact tr hj rfl hu
  · obtain ⟨k, hk⟩ := List.mem_iff_getElem?.mp hi
    obtain ⟨ws, _, ha⟩ := c.rowk hk
    obtain ⟨n, hn⟩ := List.mem_iff_getElem?.mp hm
    obtain ⟨u, _, hu⟩ := ha.get hn
    exact tr hj rfl hu
theorem vok (w : Wf L) (c : Coll L roots ord O bh) {v u : Int} (h : Tr L ord v u) : VOk O u := by
  rcases h with ⟨h1, h2⟩ | ⟨j, h1, h2, h3, h4⟩
  · exact .inl (by omega)
  · exact .inr ⟨ord.idxOf j, by rw [c.olen]; exact List.idxOf_lt_length_iff.mpr h1, by rw [h4, c.place_st w]⟩
theorem wf (w : Wf L) (c : Coll L roots ord O bh) : Wf O := by
  have hl := c.o.len
  have hm := w.many
  have ho := c.olen
  have get : ∀ k, k < O.length → ∃ j, ord[k]? = some j ∧ j < L.length ∧ ln O k = ln L j ∧ TRow L ord j (row O k) := fun k hk => by
    obtain ⟨j, hj, r⟩ := c.rows.rowOf hk
    exact ⟨j, hj, c.o.lt j (List.mem_of_getElem? hj), c.lnk w hj, r⟩
  refine ⟨by omega, fun k hk => ?_, fun k hk => ?_, fun k hk => ?_, fun k hk v hv => ?_⟩
  · obtain ⟨j, hj, hjl, e, _⟩ := get k hk
    rw [e]; exact w.size j hjl
  · obtain ⟨j, hj, hjl, e, ws, er, _⟩ := get k hk
    have h3 := w.third j hjl
    have h4 := (w.size j hjl).1
    unfold ln at h4
    rw [e, er, List.getElem?_append_left (by rw [List.length_take]; omega), List.getElem?_take_of_lt (by omega)]
    exact h3
  · obtain ⟨j, hj, hjl, e, ws, er, _⟩ := get k hk
    have h3 := w.kind j hjl
    have h4 := (w.size j hjl).1
    unfold ln at h4
    rw [er, List.getElem?_append_left (by rw [List.length_take]; omega), List.getElem?_take_of_lt (by omega)]
    exact h3
  · obtain ⟨j, hj, hjl, e, ws, er, ha⟩ := get k hk
    have h4 := (w.size j hjl).1
    unfold ln at h4
    have e2 : (row O k).drop 3 = ws := by
      rw [er, List.drop_append, List.drop_of_length_le (by rw [List.length_take]; omega)]
      rw [List.length_take, show 3 - min 3 (row L j).length = 0 by omega]; rfl
    rw [e2] at hv
    obtain ⟨n, hn⟩ := List.mem_iff_getElem?.mp hv
    obtain ⟨u, _, hu⟩ := ha.getR hn
    exact c.vok w hu
theorem bhok (w : Wf L) (c : Coll L roots ord O bh) : ∀ v ∈ bh, VOk O v := fun v hv => by
  obtain ⟨n, hn⟩ := List.mem_iff_getElem?.mp hv
  obtain ⟨u, _, hu⟩ := c.bh.getR hn
  exact c.vok w hu
end Coll
/-! papers -/
def ip (L : Rows) (pp : List (Nat × Nat)) : List (Int × Int) := pp.map fun e => ((st L e.1 : Nat), (e.2 : Nat))
def tv (ps : List (Int × Int)) (v : Int) : Int := if v < 10000 then v else 10000 + (ps.lookup (v - 10000)).getD (-1)
def starts (O : Rows) : List Int := (List.range O.length).map fun k => ((st O k : Nat) : Int)
def CellEq (L O : Rows) (pp : List (Nat × Nat)) (e : Nat × Nat) : Prop := (row L e.1).take 3 ++ ((row L e.1).drop 3).map (tv (ip L pp)) = (O.flatten.drop e.2).take (ln L e.1)
def OkP (L O : Rows) (roots bh : List Int) (pp : List (Nat × Nat)) : Prop :=
  (pp.map fun e => ((e.2 : Nat) : Int)).Perm (starts O) ∧ roots.map (tv (ip L pp)) = bh ∧ ∀ e ∈ pp, CellEq L O pp e
def All (L : Rows) (roots : List Int) (pp : List (Nat × Nat)) : Prop := ∀ j, Rc L roots j → j ∈ pp.map (·.1)
structure Pre (L O : Rows) (roots : List Int) (pp : List (Nat × Nat)) : Prop where
  wL : Wf L
  wO : Wf O
  ro : ∀ v ∈ roots, VOk L v
  few : roots.length ≤ 4
  nd : (pp.map (·.1)).Nodup
  rc : ∀ e ∈ pp, Rc L roots e.1
  size : All L roots pp → (pp.map fun e => ((e.2 : Nat) : Int)).Perm (starts O) → (pp.map fun e => ln L e.1).sum = O.flatten.length
def Judge (L O : Rows) (roots bh : List Int) (pp : List (Nat × Nat)) : Prop := All L roots pp ∧ OkP L O roots bh pp
theorem lookup_ip {L : Rows} (w : Wf L) : ∀ {pp : List (Nat × Nat)} {e : Nat × Nat}, (pp.map (·.1)).Nodup → (∀ e ∈ pp, e.1 < L.length) → e ∈ pp → (ip L pp).lookup ((st L e.1 : Nat) : Int) = some (e.2 : Int)
  | [], _, _, _, h => by simp at h
  | f :: pp, e, nd, hl, h => by
    have hn := List.nodup_cons.mp nd
    unfold ip at *
    rw [List.map_cons, List.lookup_cons]
    rcases List.mem_cons.mp h with rfl | h1
    · simp
    · have ne : ¬ (((st L e.1 : Nat) : Int) = (st L f.1 : Nat)) := fun z => by
        have e2 := st_inj w (hl e h) (hl f List.mem_cons_self) (by omega)
        exact hn.1 (by show f.1 ∈ _; rw [← e2]; exact List.mem_map_of_mem h1)
      rw [show (((st L e.1 : Nat) : Int) == (st L f.1 : Nat)) = false from beq_eq_false_iff_ne.mpr ne]
      exact lookup_ip w hn.2 (fun g hg => hl g (List.mem_cons_of_mem _ hg)) h1
theorem tv_ref {L : Rows} (w : Wf L) {pp : List (Nat × Nat)} {e : Nat × Nat} (nd : (pp.map (·.1)).Nodup) (hl : ∀ e ∈ pp, e.1 < L.length) (h : e ∈ pp) : tv (ip L pp) (10000 + (st L e.1 : Nat)) = 10000 + (e.2 : Nat) := by
  unfold tv
  rw [if_neg (by omega), show (10000 + ((st L e.1 : Nat) : Int) - 10000) = ((st L e.1 : Nat) : Int) by omega, lookup_ip w nd hl h]
  rfl
/-- where a value is found in the paper -/
theorem found {L O : Rows} {roots : List Int} {pp : List (Nat × Nat)} (p : Pre L O roots pp) {v : Int} (hv : VOk L v) (h : 10000 ≤ v) (hr : ∀ j, j < L.length → v = 10000 + (st L j : Nat) → Rc L roots j) (ha : All L roots pp) :
    ∃ n : Nat, (ip L pp).lookup (v - 10000) = some (n : Int) := by
  rcases hv with hv | ⟨j, hj, e⟩
  · omega
  · obtain ⟨f, hf, ef⟩ := List.mem_map.mp (ha j (hr j hj e))
    refine ⟨f.2, ?_⟩
    rw [e, show (10000 + ((st L j : Nat) : Int) - 10000) = ((st L j : Nat) : Int) by omega, ← ef]
    exact lookup_ip p.wL p.nd (fun g hg => (p.rc g hg).lt) hf
def pp0 (L : Rows) (ord : List Nat) : List (Nat × Nat) := ord.map fun j => (j, place L ord j)
theorem map_idx {α β : Type} [BEq α] [LawfulBEq α] {ord : List α} (nd : ord.Nodup) (f : Nat → β) : ord.map (fun j => f (ord.idxOf j)) = (List.range ord.length).map f := by
  apply List.ext_getElem
  · simp
  · intro i h1 h2
    have hi : i < ord.length := by simpa using h1
    have e : ord.idxOf ord[i] = i := by
      have h3 : ord.idxOf ord[i] < ord.length := List.idxOf_lt_length_iff.mpr (List.getElem_mem hi)
      have h4 : ord[ord.idxOf ord[i]] = ord[i] := List.getElem_idxOf h3
      exact (List.getElem_inj nd).mp h4
    simp [e]
namespace Coll
variable {L O : Rows} {roots bh : List Int} {ord : List Nat}
section
variable (w : Wf L) (c : Coll L roots ord O bh) {pp : List (Nat × Nat)} (hp : pp.Perm (pp0 L ord))
include w c hp
theorem olds : (pp.map (·.1)).Perm ord := by
  have h := hp.map (·.1)
  have e : (pp0 L ord).map (·.1) = ord := by unfold pp0; rw [List.map_map]; exact List.map_id' _
  rwa [e] at h
theorem news : (pp.map fun e => ((e.2 : Nat) : Int)).Perm (starts O) := by
  have h := hp.map (fun e : Nat × Nat => ((e.2 : Nat) : Int))
  have e : (pp0 L ord).map (fun e => ((e.2 : Nat) : Int)) = starts O := by
    unfold pp0 starts
    rw [List.map_map, c.olen, ← map_idx c.o.nd (fun k => ((st O k : Nat) : Int))]
    apply List.map_congr_left
    intro j hj
    show ((place L ord j : Nat) : Int) = _
    rw [c.place_st w]
  rwa [e] at h
theorem nd : (pp.map (·.1)).Nodup := (olds w c hp).nodup_iff.mpr c.o.nd
theorem rcs : ∀ e ∈ pp, Rc L roots e.1 := fun e he => c.o.rc _ ((olds w c hp).mem_iff.mp (List.mem_map_of_mem he))
theorem all : All L roots pp := fun j hj => (olds w c hp).mem_iff.mpr ((c.mem w).mpr hj)
theorem sum : (pp.map fun e => ln L e.1).sum = O.flatten.length := by
  have h := ((olds w c hp).map (ln L)).sum_nat
  rw [List.map_map] at h
  rw [c.total w]; exact h
theorem ent {e : Nat × Nat} (he : e ∈ pp) : e.1 ∈ ord ∧ e.2 = place L ord e.1 := by
  obtain ⟨j, hj, e1⟩ := List.mem_map.mp (hp.mem_iff.mp he)
  rw [← e1]; exact ⟨hj, rfl⟩
theorem tv_tr {v u : Int} (h : Tr L ord v u) : u = tv (ip L pp) v := by
  rcases h with ⟨h1, h2⟩ | ⟨j, h1, h2, h3, h4⟩
  · unfold tv; rw [if_pos h1]; exact h2
  · have hj : (j, place L ord j) ∈ pp := hp.mem_iff.mpr (List.mem_map_of_mem (f := fun j => (j, place L ord j)) h1)
    have e := tv_ref w (nd w c hp) (fun e he => (rcs w c hp e he).lt) hj
    rw [h3, e]; exact h4
theorem okp : OkP L O roots bh pp := by
  refine ⟨news w c hp, (c.bh.fmap fun v _ u h => tv_tr w c hp h).symm, fun e he => ?_⟩
  obtain ⟨h1, h2⟩ := ent w c hp he
  have hi : ord.idxOf e.1 < ord.length := List.idxOf_lt_length_iff.mpr h1
  have hg : ord[ord.idxOf e.1]? = some e.1 := by rw [List.getElem?_eq_getElem hi, List.getElem_idxOf]
  obtain ⟨ws, er, ha⟩ := c.rowk hg
  have hk : ord.idxOf e.1 < O.length := by rw [c.olen]; exact hi
  unfold CellEq
  rw [h2, c.place_st w, ← c.lnk w hg, flat_row hk, er, ha.fmap fun v _ u h => tv_tr w c hp h]
end
theorem pre (w : Wf L) (hr : ∀ v ∈ roots, VOk L v) (hf : roots.length ≤ 4) (c : Coll L roots ord O bh) {pp : List (Nat × Nat)} (hp : pp.Perm (pp0 L ord)) : Pre L O roots pp :=
  ⟨w, c.wf w, hr, hf, nd w c hp, rcs w c hp, fun _ _ => sum w c hp⟩
theorem judge (w : Wf L) (c : Coll L roots ord O bh) {pp : List (Nat × Nat)} (hp : pp.Perm (pp0 L ord)) : Judge L O roots bh pp := ⟨all w c hp, okp w c hp⟩
/-- any other paper with the same olds -/
theorem pre_other (w : Wf L) (hr : ∀ v ∈ roots, VOk L v) (hf : roots.length ≤ 4) (c : Coll L roots ord O bh) {pp qq : List (Nat × Nat)} (hp : pp.Perm (pp0 L ord)) (hq : (qq.map (·.1)).Perm (pp.map (·.1))) : Pre L O roots qq := by
  have ho := hq.trans (olds w c hp)
  refine ⟨w, c.wf w, hr, hf, ho.nodup_iff.mpr c.o.nd, fun e he => c.o.rc _ (ho.mem_iff.mp (List.mem_map_of_mem he)), fun _ _ => ?_⟩
  have h := (ho.map (ln L)).sum_nat
  rw [List.map_map] at h
  rw [c.total w]; exact h
/-- a paper with fewer olds -/
theorem pre_fewer (w : Wf L) (hr : ∀ v ∈ roots, VOk L v) (hf : roots.length ≤ 4) (c : Coll L roots ord O bh) {pp qq : List (Nat × Nat)} (hp : pp.Perm (pp0 L ord)) (hq : qq.Sublist pp) : Pre L O roots qq := by
  have nq : (qq.map (·.1)).Nodup := (nd w c hp).sublist (hq.map _)
  refine ⟨w, c.wf w, hr, hf, nq, fun e he => rcs w c hp e (hq.subset he), fun ha _ => ?_⟩
  have hpm : (qq.map (·.1)).Perm ord := (List.perm_ext_iff_of_nodup nq c.o.nd).mpr fun j =>
    ⟨fun h => (olds w c hp).mem_iff.mp ((hq.map _).subset h), fun h => ha j (c.o.rc j h)⟩
  have h := (hpm.map (ln L)).sum_nat
  rw [List.map_map] at h
  rw [c.total w]; exact h
/-- the paper that moves nothing, of the memory itself -/
theorem pre_same (w : Wf L) (hr : ∀ v ∈ roots, VOk L v) (hf : roots.length ≤ 4) (c : Coll L roots ord O bh) {pp : List (Nat × Nat)} (hp : pp.Perm (pp0 L ord)) : Pre L L roots (pp.map fun e => (e.1, st L e.1)) := by
  have em : (pp.map fun e => (e.1, st L e.1)).map (·.1) = pp.map (·.1) := by rw [List.map_map]; rfl
  refine ⟨w, w, hr, hf, by rw [em]; exact nd w c hp, fun e he => ?_, fun _ h => ?_⟩
  · obtain ⟨f, hf2, rfl⟩ := List.mem_map.mp he
    exact rcs w c hp f hf2
  · have hpm : (pp.map (·.1)).Perm (List.range L.length) := (List.perm_ext_iff_of_nodup (nd w c hp) List.nodup_range).mpr fun j =>
      ⟨fun hj => by
        obtain ⟨f, hf2, e⟩ := List.mem_map.mp hj
        rw [← e]; exact List.mem_range.mpr (rcs w c hp f hf2).lt, fun hj => by
        have hj' := List.mem_range.mp hj
        have h1 : ((st L j : Nat) : Int) ∈ starts L := List.mem_map_of_mem (f := fun k => ((st L k : Nat) : Int)) hj
        obtain ⟨g, hg, eg⟩ := List.mem_map.mp (h.mem_iff.mpr h1)
        obtain ⟨f, hf2, rfl⟩ := List.mem_map.mp hg
        have e2 := st_inj w (rcs w c hp f hf2).lt hj' (by have : ((st L f.1 : Nat) : Int) = (st L j : Nat) := eg; omega)
        rw [← e2]; exact List.mem_map_of_mem hf2⟩
    have hs := (hpm.map (ln L)).sum_nat
    rw [List.map_map] at hs
    rw [List.map_map]
    have e3 : ((List.range L.length).map (ln L)) = L.map List.length := by
      apply List.ext_getElem
      · simp
      · intro i h1 h2
        have hi : i < L.length := by simpa using h1
        simp [ln, row, List.getElem?_eq_getElem hi]
    rw [List.length_flatten, ← e3]
    exact hs
/-- all of the other is come to again -/
theorem again (w : Wf L) (c : Coll L roots ord O bh) {ord2 : List Nat} {O2 : Rows} {bh2 : List Int} (c2 : Coll O bh ord2 O2 bh2) : O2.flatten.length = O.flatten.length := by
  have wO := c.wf w
  have rc : ∀ {j : Nat}, Rc L roots j → Rc O bh (ord.idxOf j) := by
    intro j h
    induction h with
    | @root j hj hm =>
      obtain ⟨k, hk⟩ := List.mem_iff_getElem?.mp hm
      obtain ⟨u, hu, ht⟩ := c.bh.get hk
      rcases ht with ⟨h1, _⟩ | ⟨i, hi, hil, h3, h4⟩
      · omega
      · have e := st_inj w hj hil (by omega)
        rw [e]
        refine .root (by rw [c.olen]; exact List.idxOf_lt_length_iff.mpr hi) ?_
        rw [← c.place_st w, ← h4]
        exact List.mem_of_getElem? hu
    | @step i j hi hil hj hm ih =>
      have hio := (c.mem w).mpr hi
      have hx : ord.idxOf i < ord.length := List.idxOf_lt_length_iff.mpr hio
      have hg : ord[ord.idxOf i]? = some i := by rw [List.getElem?_eq_getElem hx, List.getElem_idxOf]
      obtain ⟨ws, er, ha⟩ := c.rowk hg
      obtain ⟨k, hk⟩ := List.mem_iff_getElem?.mp hm
      obtain ⟨u, hu, ht⟩ := ha.get hk
      rcases ht with ⟨h1, _⟩ | ⟨n, hn, hnl, h3, h4⟩
      · omega
      · have e := st_inj w hj hnl (by omega)
        rw [e]
        refine .step ih (by rw [c.olen]; exact hx) (by rw [c.olen]; exact List.idxOf_lt_length_iff.mpr hn) ?_
        have h5 := (w.size i hil).1
        unfold ln at h5
        have e2 : (row O (ord.idxOf i)).drop 3 = ws := by
          rw [er, List.drop_append, List.drop_of_length_le (by rw [List.length_take]; omega)]
          rw [List.length_take, show 3 - min 3 (row L i).length = 0 by omega]; rfl
        rw [e2, ← c.place_st w, ← h4]
        exact List.mem_of_getElem? hu
  have hpm : ord2.Perm (List.range O.length) := (List.perm_ext_iff_of_nodup c2.o.nd List.nodup_range).mpr fun k =>
    ⟨fun h => List.mem_range.mpr (c2.o.lt k h), fun h => by
      have hk : k < ord.length := by rw [← c.olen]; exact List.mem_range.mp h
      have h1 := rc (c.o.rc _ (List.getElem_mem hk))
      have e : ord.idxOf ord[k] = k := by
        have h3 : ord.idxOf ord[k] < ord.length := List.idxOf_lt_length_iff.mpr (List.getElem_mem hk)
        exact (List.getElem_inj c.o.nd).mp (List.getElem_idxOf h3)
      rw [e] at h1
      exact (c2.mem wO).mpr h1⟩
  have hs := (hpm.map (ln O)).sum_nat
  have e3 : ((List.range O.length).map (ln O)) = O.map List.length := by
    apply List.ext_getElem
    · simp
    · intro i h1 h2
      have hi : i < O.length := by simpa using h1
      simp [ln, row, List.getElem?_eq_getElem hi]
  rw [c2.total wO, List.length_flatten, ← e3]
  exact hs
end Coll
end K63

set_option Elab.async false
set_option linter.all false
set_option maxRecDepth 100000
/-! k63: the old row while it is collected, the turns of run -/
namespace K63
structure OldOk (L : Rows) (ord : List Nat) (old : List Int) : Prop where
  len : old.length = L.flatten.length
  gone : ∀ j, j < L.length → j ∈ ord → old[st L j]? = some 9 ∧ old[st L j + 1]? = some ((place L ord j : Nat) : Int)
  here : ∀ j, j < L.length → j ∉ ord → ∀ i, i < ln L j → old[st L j + i]? = (row L j)[i]?
  third : ∀ j, j < L.length → old[st L j + 2]? = some ((ln L j - 3 : Nat) : Int)
theorem OldOk.start {L : Rows} (w : Wf L) : OldOk L [] L.flatten :=
  ⟨rfl, fun _ _ h => by simp at h, fun j hj _ i hi => flat_get hj hi, fun j hj => flat_third w hj⟩
theorem OldOk.mark {L : Rows} (w : Wf L) {ord : List Nat} {old : List Int} (o : OldOk L ord old) {j : Nat} (hj : j < L.length) (h : j ∉ ord) : OldOk L (ord ++ [j]) ((old.set (st L j) 9).set (st L j + 1) ((tot L ord : Nat) : Int)) := by
  have h3 := (w.size j hj).1
  have hin := st_in hj
  have hl := o.len
  have other : ∀ i k, i < L.length → k < ln L i → i ≠ j → ((old.set (st L j) 9).set (st L j + 1) ((tot L ord : Nat) : Int))[st L i + k]? = old[st L i + k]? := fun i k hi hk ne => by
    have n1 : st L j + 1 ≠ st L i + k := fun z => ne (st_apart hj hi (a := 1) (by omega) hk z).symm
    have n2 : st L j ≠ st L i + k := fun z => ne (st_apart hj hi (a := 0) (by omega) hk (by omega)).symm
    rw [List.getElem?_set_ne n1, List.getElem?_set_ne n2]
  refine ⟨by simp [hl], fun i hi hm => ?_, fun i hi hm k hk => ?_, fun i hi => ?_⟩
  · have hi3 := (w.size i hi).1
    by_cases e : i = j
    · subst e
      rw [List.getElem?_set_ne (by omega), List.getElem?_set_self (by omega), List.getElem?_set_self (by simp; omega), place_new h]
      exact ⟨rfl, rfl⟩
    · have hm' : i ∈ ord := by
        rcases List.mem_append.mp hm with h1 | h1
        · exact h1
        · exact absurd (by simpa using h1) e
      have a1 := other i 0 hi (by omega) e
      simp only [Nat.add_zero] at a1
      rw [a1, other i 1 hi (by omega) e, place_app hm']
      exact o.gone i hi hm'
  · have e : i ≠ j := fun z => hm (by rw [z]; simp)
    rw [other i k hi hk e]
    exact o.here i hi (fun z => hm (List.mem_append_left _ z)) k hk
  · by_cases e : i = j
    · subst e
      rw [List.getElem?_set_ne (by omega), List.getElem?_set_ne (by omega)]
      exact o.third i hi
    · rw [other i 2 hi (by have := (w.size i hi).1; omega) e]
      exact o.third i hi
theorem OldOk.cut {L : Rows} {ord : List Nat} {old : List Int} (o : OldOk L ord old) {j : Nat} (hj : j < L.length) (h : j ∉ ord) : (old.drop (st L j)).take (ln L j) = row L j := by
  apply List.ext_getElem?
  intro i
  rcases Nat.lt_or_ge i (ln L j) with h1 | h1
  · rw [List.getElem?_take_of_lt h1, List.getElem?_drop]
    exact o.here j hj h i h1
  · rw [List.getElem?_eq_none (by rw [List.length_take]; omega), List.getElem?_eq_none h1]
theorem OldOk.kind {L : Rows} (w : Wf L) {ord : List Nat} {old : List Int} (o : OldOk L ord old) {j : Nat} (hj : j < L.length) : ∃ k, old[st L j]? = some k ∧ (k = 9 ↔ j ∈ ord) := by
  by_cases h : j ∈ ord
  · exact ⟨9, (o.gone j hj h).1, fun _ => h, fun _ => rfl⟩
  · have h3 := (w.size j hj).1
    have a1 := o.here j hj h 0 (by omega)
    rw [Nat.add_zero] at a1
    have hk : 0 < (row L j).length := by unfold ln at h3; omega
    refine ⟨(row L j)[0], by rw [a1, List.getElem?_eq_getElem hk], fun z => absurd (by rw [List.getElem?_eq_getElem hk, z]) (w.kind j hj), fun z => absurd z h⟩
def mvs (L : Rows) (ord : List Nat) : List (Int × Int) := ord.map fun j => (((st L j : Nat) : Int), ((place L ord j : Nat) : Int))
theorem mvs_new {L : Rows} {ord : List Nat} {j : Nat} (h : j ∉ ord) : mvs L (ord ++ [j]) = mvs L ord ++ [(((st L j : Nat) : Int), ((tot L ord : Nat) : Int))] := by
  unfold mvs
  rw [List.map_append]
  congr 1
  · apply List.map_congr_left
    intro i hi
    rw [place_app hi]
  · simp [place_new h]
theorem mvs_ip {L : Rows} {ord : List Nat} : mvs L ord = ip L (pp0 L ord) := by unfold mvs ip pp0; rw [List.map_map]; rfl
theorem mvs_not {L : Rows} (w : Wf L) {ord : List Nat} (hl : ∀ j ∈ ord, j < L.length) {j : Nat} (hj : j < L.length) (h : j ∉ ord) : (mvs L ord).lookup ((st L j : Nat) : Int) = none := by
  rw [List.lookup_eq_none_iff]
  intro e he
  obtain ⟨i, hi, rfl⟩ := List.mem_map.mp he
  simp only [bne_iff_ne, ne_eq]
  intro z'
  exact h (by rw [st_inj w hj (hl i hi) (by omega)]; exact hi)
theorem tot_app {L : Rows} {a b : List Nat} : tot L (a ++ b) = tot L a + tot L b := by unfold tot; rw [List.map_append, List.sum_append]
theorem tot_one {L : Rows} {j : Nat} : tot L [j] = ln L j := by simp [tot]
theorem tot_rows {L : Rows} (o : List Nat) : (o.map (row L)).flatten.length = tot L o := by
  rw [List.length_flatten, List.map_map]; rfl
/-- behind some turns of run: od is done, ot is not -/
def Outer (L : Rows) (roots : List Int) (pre ord : List Nat) (new : List Int) (at_ : Nat) : Prop :=
  ∃ od ot more D, ord = od ++ ot ∧ ord = pre ++ more ∧ new = D.flatten ++ (ot.map (row L)).flatten ∧ Al (TRow L ord) od D ∧ at_ = D.flatten.length ∧ Ordr L roots ord
/-- within a turn: t values of the cell c are done -/
def Inner (L : Rows) (roots : List Int) (pre ord : List Nat) (new : List Int) (at_ : Nat) (c : Nat) (t : Nat) : Prop :=
  ∃ od ot more D ws, ord = od ++ c :: ot ∧ ord = pre ++ more ∧ new = (D.flatten ++ (row L c).take 3 ++ ws) ++ ((row L c).drop (3 + t) ++ (ot.map (row L)).flatten) ∧ Al (TRow L ord) od D ∧ at_ = D.flatten.length ∧ Ordr L roots ord ∧
    ws.length = t ∧ Al (Tr L ord) (((row L c).drop 3).take t) ws
theorem Outer.first {L : Rows} {roots : List Int} {ord : List Nat} (o : Ordr L roots ord) : Outer L roots ord ord (ord.map (row L)).flatten 0 :=
  ⟨[], ord, [], [], rfl, by simp, by simp, .nil, rfl, o⟩
theorem Outer.enter {L : Rows} (w : Wf L) {roots : List Int} {pre ord : List Nat} {new : List Int} {at_ : Nat} (h : Outer L roots pre ord new at_) (hlt : at_ < new.length) :
    ∃ c, c < L.length ∧ new[at_ + 2]? = some ((ln L c - 3 : Nat) : Int) ∧ Inner L roots pre ord new at_ c 0 := by
  obtain ⟨od, ot, more, D, e1, e2, e3, ha, e4, o⟩ := h
  cases ot with
  | nil => rw [e3, List.map_nil, List.flatten_nil, List.append_nil] at hlt; omega
  | cons c ot =>
    have hc : c < L.length := o.lt c (by rw [e1]; simp)
    have h3 := (w.size c hc).1
    have h3' : 3 ≤ (row L c).length := h3
    refine ⟨c, hc, ?_, od, ot, more, D, [], e1, e2, ?_, ha, e4, o, rfl, by simp; exact .nil⟩
    · rw [e3, List.getElem?_append_right (by omega), e4, show D.flatten.length + 2 - D.flatten.length = 2 by omega]
      simp only [List.map_cons, List.flatten_cons]
      rw [List.getElem?_append_left (by omega)]
      exact w.third c hc
    · rw [e3]
      simp only [List.map_cons, List.flatten_cons, List.append_nil, Nat.add_zero]
      rw [List.append_assoc, ← List.append_assoc ((row L c).take 3), List.take_append_drop]
theorem Inner.head {L : Rows} (w : Wf L) {roots : List Int} {pre ord : List Nat} {new : List Int} {at_ c t : Nat} (h : Inner L roots pre ord new at_ c t) : c < L.length ∧ new[at_ + 2]? = some ((ln L c - 3 : Nat) : Int) := by
  obtain ⟨od, ot, more, D, ws, e1, e2, e3, ha, e4, o, e5, e6⟩ := h
  have hc : c < L.length := o.lt c (by rw [e1]; simp)
  have h3' : 3 ≤ (row L c).length := (w.size c hc).1
  refine ⟨hc, ?_⟩
  rw [e3, List.append_assoc, List.append_assoc, List.getElem?_append_right (by omega), e4, show D.flatten.length + 2 - D.flatten.length = 2 by omega, List.getElem?_append_left (by rw [List.length_take]; omega), List.getElem?_take_of_lt (by omega)]
  exact w.third c hc
/-- the next value; what is put for it -/
theorem Inner.step {L : Rows} (w : Wf L) {roots : List Int} {pre ord : List Nat} {new : List Int} {at_ c t : Nat} (h : Inner L roots pre ord new at_ c t) (ht : t < ln L c - 3) :
    ∃ v, new[at_ + 3 + t]? = some v ∧ VOk L v ∧ ∀ ord' ext u, Visit L ord v ord' ext u → Inner L roots pre ord' ((new ++ ext).set (at_ + 3 + t) u) at_ c (t + 1) := by
  obtain ⟨od, ot, more, D, ws, e1, e2, e3, ha, e4, o, e5, e6⟩ := h
  have hco : c ∈ ord := by rw [e1]; simp
  have hc : c < L.length := o.lt c hco
  have h3' : 3 ≤ (row L c).length := (w.size c hc).1
  have htl : 3 + t < (row L c).length := by unfold ln at ht; omega
  obtain ⟨v, hv⟩ : ∃ v, (row L c)[3 + t]? = some v := ⟨_, List.getElem?_eq_getElem htl⟩
  have hd : (row L c).drop (3 + t) = v :: (row L c).drop (3 + (t + 1)) := by
    rw [List.drop_eq_getElem_cons htl, List.getElem?_eq_getElem htl] at *
    cases hv; rfl
  have hv3 : ((row L c).drop 3)[t]? = some v := by rw [List.getElem?_drop]; exact hv
  have hmem : v ∈ (row L c).drop 3 := List.mem_of_getElem? hv3
  have hA : (D.flatten ++ (row L c).take 3 ++ ws).length = at_ + 3 + t := by
    rw [List.length_append, List.length_append, List.length_take, e4, e5]; omega
  rw [hd] at e3
  refine ⟨v, ?_, w.refs c hc v hmem, fun ord' ext u hvis => ?_⟩
  · rw [e3, List.getElem?_append_right (by omega), hA, Nat.sub_self]; rfl
  · obtain ⟨mo, q1, q2, q3, q4⟩ := hvis.pre
    have o' : Ordr L roots ord' := o.visit hvis fun j hj ev => .step (o.rc c hco) hc hj (by rw [← ev]; exact hmem)
    refine ⟨od, ot ++ mo, more ++ mo, D, ws ++ [u], by rw [q1, e1]; simp, by rw [q1, e2]; simp, ?_, ?_, e4, o', by simp [e5], ?_⟩
    · rw [e3, List.append_assoc, List.set_append_right _ _ (by omega), hA, Nat.sub_self, q2]
      simp
    · rw [q1]; exact ha.mono fun _ _ x => x.app
    · have hs : ((row L c).drop 3).take (t + 1) = ((row L c).drop 3).take t ++ [v] := by rw [List.take_succ, hv3]; rfl
      rw [hs]
      refine Al.snoc ?_ hvis.tr
      rw [q1]; exact e6.mono fun _ _ x => x.app
theorem Inner.leave {L : Rows} (w : Wf L) {roots : List Int} {pre ord : List Nat} {new : List Int} {at_ c : Nat} (h : Inner L roots pre ord new at_ c (ln L c - 3)) : Outer L roots pre ord new (at_ + ln L c) := by
  obtain ⟨od, ot, more, D, ws, e1, e2, e3, ha, e4, o, e5, e6⟩ := h
  have hc : c < L.length := o.lt c (by rw [e1]; simp)
  have h3 := (w.size c hc).1
  have h3' : 3 ≤ (row L c).length := h3
  have el : (row L c).length = ln L c := rfl
  rw [List.drop_of_length_le (by omega), List.nil_append] at e3
  rw [List.take_of_length_le (by rw [List.length_drop]; omega)] at e6
  refine ⟨od ++ [c], ot, more, D ++ [(row L c).take 3 ++ ws], by rw [e1]; simp, e2, by rw [e3]; simp, ha.snoc ⟨ws, rfl, e6⟩, ?_, o⟩
  rw [List.flatten_append, List.length_append, e4]
  simp only [List.flatten_cons, List.flatten_nil, List.append_nil, List.length_append, List.length_take, e5]
  omega
theorem Outer.done {L : Rows} (w : Wf L) {roots : List Int} {pre ord : List Nat} {new : List Int} {at_ : Nat} (h : Outer L roots pre ord new at_) (hge : ¬ at_ < new.length) :
    ∃ O more, new = O.flatten ∧ ord = pre ++ more ∧ Al (TRow L ord) ord O ∧ Ordr L roots ord := by
  obtain ⟨od, ot, more, D, e1, e2, e3, ha, e4, o⟩ := h
  cases ot with
  | nil =>
    rw [List.append_nil] at e1
    subst e1
    exact ⟨D, more, by rw [e3]; simp, e2, ha, o⟩
  | cons c ot =>
    have hc : c < L.length := o.lt c (by rw [e1]; simp)
    have h3' : 3 ≤ (row L c).length := (w.size c hc).1
    rw [e3] at hge
    simp only [List.map_cons, List.flatten_cons, List.length_append] at hge
    omega
theorem Outer.small {L : Rows} (w : Wf L) {roots : List Int} {pre ord : List Nat} {new : List Int} {at_ : Nat} (h : Outer L roots pre ord new at_) (hn : new.length = tot L ord) : new.length ≤ 48 ∧ at_ ≤ 48 := by
  obtain ⟨od, ot, more, D, e1, e2, e3, ha, e4, o⟩ := h
  have h1 := tot_small w o.lt
  have h2 := o.len
  have h3 := w.many
  have h4 : D.flatten.length ≤ new.length := by rw [e3, List.length_append]; omega
  omega
end K63

set_option Elab.async false
set_option linter.all false
set_option maxRecDepth 100000
/-! k63: what is come to, found by a walk -/
namespace K63
theorem least {P : Nat → Prop} : ∀ n, P n → ∃ m, P m ∧ ∀ k, P k → m ≤ k := by
  intro n
  induction n using Nat.strongRecOn with
  | ind n ih =>
    intro h
    by_cases z : ∃ k, k < n ∧ P k
    · obtain ⟨k, hk, hp⟩ := z
      exact ih k hk hp
    · exact ⟨n, h, fun k hk => Nat.le_of_not_lt fun l => z ⟨k, l, hk⟩⟩
theorem least' {P : Nat → Prop} (h : ∃ n, P n) : ∃ m, P m ∧ ∀ k, P k → m ≤ k := let ⟨n, hn⟩ := h; least n hn
open Classical in
/-- the least measure by which a state is told -/
noncomputable def mu {α β : Type} (Pv : Nat → α → β → Prop) (σ : α) (H : β) : Nat := if h : ∃ m, Pv m σ H then Classical.choose (least' h) else 0
theorem mu_at {α β : Type} {Pv : Nat → α → β → Prop} {σ : α} {H : β} (h : ∃ m, Pv m σ H) : ∃ m, Pv m σ H ∧ mu Pv σ H = m := by
  unfold mu
  rw [dif_pos h]
  exact ⟨_, (Classical.choose_spec (least' h)).1, rfl⟩
theorem mu_lt {α β : Type} {Pv : Nat → α → β → Prop} {σ σ' : α} {H H' : β} {m m' : Nat} (e : mu Pv σ H = m) (l : m' < m) (h : Pv m' σ' H') : (∃ m, Pv m σ' H') ∧ mu Pv σ' H' < mu Pv σ H := by
  refine ⟨⟨m', h⟩, ?_⟩
  rw [e]
  refine Nat.lt_of_le_of_lt ?_ l
  have hx : ∃ m, Pv m σ' H' := ⟨m', h⟩
  unfold mu
  rw [dif_pos hx]
  exact (Classical.choose_spec (least' hx)).2 m' h
def refF (v : Int) : Option Int := if v ≥ 10000 then some (v - 10000) else none
def RefsTo (L : Rows) (xs : List Int) (js : List Nat) : Prop := xs.filterMap refF = js.map (fun j => ((st L j : Nat) : Int)) ∧ (∀ j ∈ js, j < L.length ∧ (10000 + (st L j : Nat) : Int) ∈ xs) ∧ ∀ j, j < L.length → (10000 + (st L j : Nat) : Int) ∈ xs → j ∈ js
theorem refs_to {L : Rows} (w : Wf L) : ∀ {xs : List Int}, (∀ v ∈ xs, VOk L v) → ∃ js, RefsTo L xs js ∧ js.length ≤ xs.length
  | [], _ => ⟨[], ⟨rfl, by simp, by simp⟩, Nat.le_refl _⟩
  | v :: xs, h => by
    obtain ⟨js, ⟨h1, h2, h3⟩, h4⟩ := refs_to w (xs := xs) fun u hu => h u (List.mem_cons_of_mem _ hu)
    rcases h v List.mem_cons_self with hv | ⟨i, hi, ev⟩
    · refine ⟨js, ⟨?_, fun j hj => ⟨(h2 j hj).1, List.mem_cons_of_mem _ (h2 j hj).2⟩, fun j hj hm => ?_⟩, Nat.le_succ_of_le h4⟩
      · rw [List.filterMap_cons]
        have e : refF v = none := by unfold refF; rw [if_neg (by omega)]
        rw [e]; exact h1
      · rcases List.mem_cons.mp hm with e | e
        · omega
        · exact h3 j hj e
    · refine ⟨i :: js, ⟨?_, fun j hj => ?_, fun j hj hm => ?_⟩, by simp; exact h4⟩
      · rw [List.filterMap_cons]
        have e : refF v = some ((st L i : Nat) : Int) := by unfold refF; rw [if_pos (by omega)]; congr 1; omega
        rw [e, h1]; rfl
      · rcases List.mem_cons.mp hj with e | e
        · subst e; exact ⟨hi, by rw [← ev]; exact List.mem_cons_self⟩
        · exact ⟨(h2 j e).1, List.mem_cons_of_mem _ (h2 j e).2⟩
      · rcases List.mem_cons.mp hm with e | e
        · have : j = i := st_inj w hj hi (by omega)
          rw [this]; exact List.mem_cons_self
        · exact List.mem_cons_of_mem _ (h3 j hj e)
/-- found, and what waits -/
structure Dfs (L : Rows) (roots : List Int) (fd wt : List Nat) : Prop where
  nd : fd.Nodup
  rf : ∀ j ∈ fd, Rc L roots j
  rw_ : ∀ j ∈ wt, Rc L roots j
  ro : ∀ j, j < L.length → (10000 + (st L j : Nat) : Int) ∈ roots → j ∈ fd ∨ j ∈ wt
  go : ∀ i ∈ fd, ∀ j, j < L.length → (10000 + (st L j : Nat) : Int) ∈ (row L i).drop 3 → j ∈ fd ∨ j ∈ wt
def left (L : Rows) (fd : List Nat) : Nat := (((List.range L.length).filter fun j => decide (j ∉ fd)).map fun j => ln L j - 3).sum
theorem left_new {L : Rows} {fd : List Nat} {c : Nat} (hc : c < L.length) (h : c ∉ fd) : left L (fd ++ [c]) + (ln L c - 3) = left L fd := by
  unfold left
  have hm : c ∈ (List.range L.length).filter fun j => decide (j ∉ fd) := by simp [hc, h]
  have hp := List.perm_cons_erase hm
  have e1 := ((hp.map fun j => ln L j - 3).sum_nat)
  rw [List.map_cons, List.sum_cons] at e1
  have hn : ((List.range L.length).filter fun j => decide (j ∉ fd)).Nodup := List.Pairwise.filter _ List.nodup_range
  have e2 : (((List.range L.length).filter fun j => decide (j ∉ fd)).erase c).Perm ((List.range L.length).filter fun j => decide (j ∉ fd ++ [c])) := by
    refine (List.perm_ext_iff_of_nodup (hn.erase c) (List.Pairwise.filter _ List.nodup_range)).mpr fun a => ?_
    rw [hn.mem_erase_iff]
    simp
    constructor
    · rintro ⟨h1, h2, h3⟩; exact ⟨h2, h3, h1⟩
    · rintro ⟨h1, h2, h3⟩; exact ⟨h3, h1, h2⟩
  have e3 := (e2.map fun j => ln L j - 3).sum_nat
  omega
theorem left_first {L : Rows} (w : Wf L) : left L [] ≤ 24 := by
  have key : ∀ (l : List Nat), (∀ j ∈ l, j < L.length) → (l.map fun j => ln L j - 3).sum ≤ 3 * l.length := by
    intro l
    induction l with
    | nil => intro _; simp
    | cons j t ih =>
      intro h
      have h1 := ih fun k hk => h k (List.mem_cons_of_mem _ hk)
      have h2 := (w.size j (h j List.mem_cons_self)).2
      simp only [List.map_cons, List.sum_cons, List.length_cons]
      omega
  have e : (List.range L.length).filter (fun j => decide (j ∉ ([] : List Nat))) = List.range L.length := by simp
  unfold left
  rw [e]
  have h1 := key (List.range L.length) fun j hj => List.mem_range.mp hj
  rw [List.length_range] at h1
  have h2 := w.many
  omega
theorem Dfs.first {L : Rows} {roots : List Int} {js : List Nat} (h : RefsTo L roots js) : Dfs L roots [] js :=
  ⟨List.nodup_nil, by simp, fun j hj => .root (h.2.1 j hj).1 (h.2.1 j hj).2, fun j hj hm => .inr (h.2.2 j hj hm), by simp⟩
theorem Dfs.old {L : Rows} {roots : List Int} {fd wt : List Nat} {c : Nat} (d : Dfs L roots fd (wt ++ [c])) (h : c ∈ fd) : Dfs L roots fd wt := by
  have key : ∀ j, (j ∈ fd ∨ j ∈ wt ++ [c]) → j ∈ fd ∨ j ∈ wt := fun j hj => by
    rcases hj with hj | hj
    · exact .inl hj
    · rcases List.mem_append.mp hj with h1 | h1
      · exact .inr h1
      · rw [List.mem_singleton.mp h1]; exact .inl h
  exact ⟨d.nd, d.rf, fun j hj => d.rw_ j (List.mem_append_left _ hj), fun j hj hm => key j (d.ro j hj hm), fun i hi j hj hm => key j (d.go i hi j hj hm)⟩
theorem Dfs.new {L : Rows} {roots : List Int} {fd wt js : List Nat} {c : Nat} (d : Dfs L roots fd (wt ++ [c])) (h : c ∉ fd) (r : RefsTo L ((row L c).drop 3) js) : Dfs L roots (fd ++ [c]) (wt ++ js) := by
  have rc : Rc L roots c := d.rw_ c (by simp)
  have key : ∀ j, (j ∈ fd ∨ j ∈ wt ++ [c]) → j ∈ fd ++ [c] ∨ j ∈ wt ++ js := fun j hj => by
    rcases hj with hj | hj
    · exact .inl (List.mem_append_left _ hj)
    · rcases List.mem_append.mp hj with h1 | h1
      · exact .inr (List.mem_append_left _ h1)
      · exact .inl (List.mem_append_right _ h1)
  refine ⟨List.nodup_append.mpr ⟨d.nd, by simp, fun a ha b hb e => h (by rw [List.mem_singleton.mp hb] at e; exact e ▸ ha)⟩, fun j hj => ?_, fun j hj => ?_, fun j hj hm => key j (d.ro j hj hm), fun i hi j hj hm => ?_⟩
  · rcases List.mem_append.mp hj with h1 | h1
    · exact d.rf j h1
    · rw [List.mem_singleton.mp h1]; exact rc
  · rcases List.mem_append.mp hj with h1 | h1
    · exact d.rw_ j (List.mem_append_left _ h1)
    · exact .step rc rc.lt (r.2.1 j h1).1 (r.2.1 j h1).2
  · rcases List.mem_append.mp hi with h1 | h1
    · exact key j (d.go i h1 j hj hm)
    · rw [List.mem_singleton.mp h1] at hm
      exact .inr (List.mem_append_right _ (r.2.2 j hj hm))
theorem Dfs.done {L : Rows} (w : Wf L) {roots : List Int} {fd : List Nat} (d : Dfs L roots fd []) {ys : List Int} (p : ys.Perm (fd.map fun j => ((st L j : Nat) : Int))) (s : ys.Pairwise (· ≤ ·)) : Rch L roots ys := by
  have hm : ∀ j, j ∈ fd ↔ Rc L roots j := fun j => ⟨d.rf j, fun h => Rc.closed (S := fun j => j ∈ fd) (fun j hj hm => by simpa using d.ro j hj hm) (fun i j hi _ hj hm => by simpa using d.go i hi j hj hm) h⟩
  have hn : ys.Nodup := by
    rw [p.nodup_iff, List.nodup_iff_pairwise_ne, List.pairwise_map]
    exact List.Pairwise.imp_of_mem (fun {a b} ha hb hne z => hne (st_inj w (d.rf a ha).lt (d.rf b hb).lt (by omega))) (List.nodup_iff_pairwise_ne.mp d.nd)
  refine ⟨sorted_strict s hn, fun y => ?_⟩
  rw [p.mem_iff, List.mem_map]
  constructor
  · rintro ⟨j, hj, e⟩; exact ⟨j, (hm j).mp hj, e.symm⟩
  · rintro ⟨j, hj, e⟩; exact ⟨j, (hm j).mpr hj, e.symm⟩
theorem Dfs.len {L : Rows} {roots : List Int} {fd wt : List Nat} (d : Dfs L roots fd wt) : fd.length ≤ L.length := by
  have h := List.Nodup.length_le_of_subset (l₂ := List.range L.length) d.nd fun j hj => List.mem_range.mpr (d.rf j hj).lt
  rwa [List.length_range] at h
end K63

set_option Elab.async false
set_option linter.all false
set_option maxRecDepth 100000
/-! k63: equality of rows of ints, slices -/
namespace K63
open PySem PySem.Spec PyProof.Rows L2
abbrev di (ns : List Int) : PyData := .list (ns.map PyData.int)
theorem di_eqv : ∀ (ns ms : List Int), PyData.eqv (di ns) (di ms) = decide (ns = ms) := by
  intro ns ms
  show PyData.eqv (.list (ns.map PyData.int)) (.list (ms.map PyData.int)) = _
  rw [PyData.eqv]
  induction ns generalizing ms with
  | nil => cases ms with
    | nil => simp [PyData.eqvAll]
    | cons m t => simp [PyData.eqvAll]
  | cons n t ih => cases ms with
    | nil => simp [PyData.eqvAll]
    | cons m u =>
      rw [List.map_cons, List.map_cons, PyData.eqvAll, ih u, PyData.eqv]
      by_cases h1 : n = m
      · subst h1; simp
      · simp [h1]
theorem di_shaped (ns : List Int) : SeqAt.shaped (di ns) = true := by
  have h1 : ∀ ns : List Int, PyData.canLayAll0 (ns.map PyData.int) = true := by
    intro ns
    induction ns with
    | nil => simp [PyData.canLayAll0]
    | cons n t ih => rw [List.map_cons, PyData.canLayAll0, ih, PyData.canLay0]; rfl
  have h2 : ∀ ns : List Int, PyData.depthAll (ns.map PyData.int) = 0 := by
    intro ns
    induction ns with
    | nil => simp [PyData.depthAll]
    | cons n t ih => rw [List.map_cons, PyData.depthAll, ih, PyData.depth]; rfl
  unfold SeqAt.shaped
  rw [PyData.canLay0, h1, PyData.depth, h2]; rfl
end K63

set_option Elab.async false
set_option linter.all false
set_option maxRecDepth 100000
/-! k63: the drawn memory -/
namespace K63
def pls (ss : List Nat) (j : Nat) : Nat := ((ss.take j).map (3 + ·)).sum
theorem pls_zero {ss : List Nat} : pls ss 0 = 0 := rfl
theorem pls_succ {ss : List Nat} {j s : Nat} (h : ss[j]? = some s) : pls ss (j + 1) = pls ss j + 3 + s := by
  unfold pls
  rw [List.take_succ, h, List.map_append, List.sum_append]
  simp; omega
def RowG (ss : List Nat) (s : Nat) (r : List Int) : Prop := r.length = 3 + s ∧ r[2]? = some ((s : Nat) : Int) ∧ r[0]? ≠ some 9 ∧ ∀ v ∈ r.drop 3, v < 10000 ∨ ∃ j, j < ss.length ∧ v = 10000 + ((pls ss j : Nat) : Int)
theorem rowG {ss : List Nat} {a b : Int} {s : Nat} {ws : List Int} (ha : a < 9) (hw : ws.length = s) (h : ∀ v ∈ ws, v < 10000 ∨ ∃ j, j < ss.length ∧ v = 10000 + ((pls ss j : Nat) : Int)) : RowG ss s ([a, b, ((s : Nat) : Int)] ++ ws) := by
  refine ⟨by simp [hw]; omega, rfl, ?_, by simpa using h⟩
  simp; omega
theorem drawn_st {ss : List Nat} {L : Rows} (h : Al (RowG ss) ss L) : ∀ j, st L j = pls ss j := by
  have key : ∀ {tt : List Nat} {M : Rows}, Al (RowG ss) tt M → ∀ j, ((M.take j).map List.length).sum = ((tt.take j).map (3 + ·)).sum := by
    intro tt M h
    induction h with
    | nil => intro j; simp
    | cons x t ih =>
      intro j
      cases j with
      | zero => simp
      | succ j => rw [List.take_succ_cons, List.take_succ_cons, List.map_cons, List.map_cons, List.sum_cons, List.sum_cons, ih j, x.1]
  exact fun j => key h j
theorem drawn_small {ss : List Nat} {tt : List Nat} {L : Rows} (h : Al (RowG ss) tt L) (h4 : ∀ s ∈ tt, s < 4) : L.flatten.length ≤ 6 * tt.length := by
  induction h with
  | nil => simp
  | @cons s r tt L x t ih =>
    have h1 := ih fun s hs => h4 s (List.mem_cons_of_mem _ hs)
    have h2 := h4 s List.mem_cons_self
    rw [List.flatten_cons, List.length_append, x.1, List.length_cons]
    omega
theorem drawn_wf {ss : List Nat} {L : Rows} (h : Al (RowG ss) ss L) (hs : ∀ s ∈ ss, s < 4) (hl : ss.length ≤ 8) : Wf L := by
  have e := h.len
  have get : ∀ j, j < L.length → ∃ s, s ∈ ss ∧ RowG ss s (row L j) := fun j hj => by
    obtain ⟨s, h1, h2⟩ := h.getR (row_get hj)
    exact ⟨s, List.mem_of_getElem? h1, h2⟩
  refine ⟨by omega, fun j hj => ?_, fun j hj => ?_, fun j hj => ?_, fun j hj v hv => ?_⟩
  · obtain ⟨s, h1, h2⟩ := get j hj
    have := hs s h1
    unfold ln; rw [h2.1]; omega
  · obtain ⟨s, h1, h2⟩ := get j hj
    unfold ln; rw [h2.1, Nat.add_sub_cancel_left]; exact h2.2.1
  · obtain ⟨s, h1, h2⟩ := get j hj
    exact h2.2.2.1
  · obtain ⟨s, h1, h2⟩ := get j hj
    rcases h2.2.2.2 v hv with h3 | ⟨i, hi, h3⟩
    · exact .inl h3
    · exact .inr ⟨i, by omega, by rw [drawn_st h]; exact h3⟩
theorem drawn_starts {ss : List Nat} {L : Rows} (h : Al (RowG ss) ss L) : starts L = (List.range ss.length).map fun j => ((pls ss j : Nat) : Int) := by
  unfold starts
  rw [← h.len]
  apply List.map_congr_left
  intro j _
  rw [drawn_st h]
end K63

set_option Elab.async false
set_option linter.all false
set_option maxRecDepth 100000
set_option maxHeartbeats 0
namespace K63
open PySem PySem.Spec PyProof.Rows L2
def top (i : Nat) : Stmt := PySem.Challenge.pw_wholedown_k63_whole_collections_are_judg.main.body.getD i (.Pass ⟨0, 0, 0, 0⟩)
abbrev s_is_cell : Stmt := top 4
theorem sc_is_cell : FnScope ["value"] ["value"] (defScope s_is_cell) := ⟨rfl, rfl, rfl, by decide +kernel, rfl, by decide +kernel, by decide +kernel⟩
abbrev s_cell_size : Stmt := top 5
theorem sc_cell_size : FnScope ["memory", "at"] ["memory", "at"] (defScope s_cell_size) := ⟨rfl, rfl, rfl, by decide +kernel, rfl, by decide +kernel, by decide +kernel⟩
abbrev s_Collector___init__ : Stmt := inClass (top 6) 0
theorem sc_Collector___init__ : FnScope ["self", "memory"] ["self", "memory"] (defScope s_Collector___init__) := ⟨rfl, rfl, rfl, by decide +kernel, rfl, by decide +kernel, by decide +kernel⟩
abbrev s_Collector_moved_value : Stmt := inClass (top 6) 1
theorem sc_Collector_moved_value : FnScope ["self", "value", "at"] ["self", "value"] (defScope s_Collector_moved_value) := ⟨rfl, rfl, rfl, by decide +kernel, rfl, by decide +kernel, by decide +kernel⟩
abbrev s_Collector_run : Stmt := inClass (top 6) 2
theorem sc_Collector_run : FnScope ["self", "at", "place"] ["self"] (defScope s_Collector_run) := ⟨rfl, rfl, rfl, by decide +kernel, rfl, by decide +kernel, by decide +kernel⟩
abbrev s_collected : Stmt := top 7
theorem sc_collected : FnScope ["memory", "roots", "collector", "behind", "value"] ["memory", "roots"] (defScope s_collected) := ⟨rfl, rfl, rfl, by decide +kernel, rfl, by decide +kernel, by decide +kernel⟩
abbrev s_starts_in : Stmt := top 8
theorem sc_starts_in : FnScope ["memory", "found", "at"] ["memory"] (defScope s_starts_in) := ⟨rfl, rfl, rfl, by decide +kernel, rfl, by decide +kernel, by decide +kernel⟩
abbrev s_reached_from : Stmt := top 9
theorem sc_reached_from : FnScope ["memory", "roots", "found", "waiting", "at", "items", "value"] ["memory", "roots"] (defScope s_reached_from) := ⟨rfl, rfl, rfl, by decide +kernel, rfl, by decide +kernel, by decide +kernel⟩
abbrev s_check_collected : Stmt := top 10
theorem sc_check_collected : FnScope ["memory", "roots", "other", "behind", "paper", "moved", "old", "new", "items", "value"] ["memory", "roots", "other", "behind", "paper"] (defScope s_check_collected) := ⟨rfl, rfl, rfl, by decide +kernel, rfl, by decide +kernel, by decide +kernel⟩
abbrev s_turned : Stmt := top 11
theorem sc_turned : FnScope ["moved", "value"] ["moved", "value"] (defScope s_turned) := ⟨rfl, rfl, rfl, by decide +kernel, rfl, by decide +kernel, by decide +kernel⟩
abbrev s_law_cell : Stmt := top 13
theorem sc_law_cell : FnScope ["script", "k"] ["script", "k"] (defScope s_law_cell) := ⟨rfl, rfl, rfl, by decide +kernel, rfl, by decide +kernel, by decide +kernel⟩
abbrev s_law_numbers : Stmt := top 14
theorem sc_law_numbers : FnScope ["cell", "many", "rows", "left", "k", "mixed"] ["cell", "many"] (defScope s_law_numbers) := ⟨rfl, rfl, rfl, by decide +kernel, rfl, by decide +kernel, by decide +kernel⟩
abbrev s_law_pool : Stmt := top 15
theorem sc_law_pool : FnScope ["script", "rows", "k"] ["script"] (defScope s_law_pool) := ⟨rfl, rfl, rfl, by decide +kernel, rfl, by decide +kernel, by decide +kernel⟩
abbrev s_law_draw : Stmt := top 16
theorem sc_law_draw : FnScope ["pool", "many", "at", "turn"] ["pool", "many"] (defScope s_law_draw) := ⟨rfl, rfl, rfl, by decide +kernel, rfl, by decide +kernel, by decide +kernel⟩
abbrev s_law_kind : Stmt := top 17
theorem sc_law_kind : FnScope ["x"] ["x"] (defScope s_law_kind) := ⟨rfl, rfl, rfl, by decide +kernel, rfl, by decide +kernel, by decide +kernel⟩
abbrev s_law_equal : Stmt := top 18
theorem sc_law_equal : FnScope ["x", "due", "k"] ["x", "due"] (defScope s_law_equal) := ⟨rfl, rfl, rfl, by decide +kernel, rfl, by decide +kernel, by decide +kernel⟩
abbrev s_law_is : Stmt := top 19
theorem sc_law_is : FnScope ["x", "due"] ["x", "due"] (defScope s_law_is) := ⟨rfl, rfl, rfl, by decide +kernel, rfl, by decide +kernel, by decide +kernel⟩
abbrev s_law_up : Stmt := top 20
theorem sc_law_up : FnScope ["x", "k"] ["x"] (defScope s_law_up) := ⟨rfl, rfl, rfl, by decide +kernel, rfl, by decide +kernel, by decide +kernel⟩
abbrev s_law_pick : Stmt := top 21
theorem sc_law_pick : FnScope ["pool", "rows"] ["pool", "rows"] (defScope s_law_pick) := ⟨rfl, rfl, rfl, by decide +kernel, rfl, by decide +kernel, by decide +kernel⟩
abbrev s_law_memory : Stmt := top 22
theorem sc_law_memory : FnScope ["pool", "k", "sizes", "places", "at", "size", "memory"] ["pool"] (defScope s_law_memory) := ⟨rfl, rfl, rfl, by decide +kernel, rfl, by decide +kernel, by decide +kernel⟩
abbrev s_law_value : Stmt := top 23
theorem sc_law_value : FnScope ["pool", "places"] ["pool", "places"] (defScope s_law_value) := ⟨rfl, rfl, rfl, by decide +kernel, rfl, by decide +kernel, by decide +kernel⟩
abbrev s_law_reach : Stmt := top 24
theorem sc_law_reach : FnScope ["memory", "roots", "found", "waiting", "k", "at", "value"] ["memory", "roots"] (defScope s_law_reach) := ⟨rfl, rfl, rfl, by decide +kernel, rfl, by decide +kernel, by decide +kernel⟩
abbrev s_law_right : Stmt := top 25
theorem sc_law_right : FnScope ["memory", "roots", "other", "behind", "paper", "moved", "old", "new", "size", "starts", "at", "many", "items", "value"] ["memory", "roots", "other", "behind", "paper"] (defScope s_law_right) := ⟨rfl, rfl, rfl, by decide +kernel, rfl, by decide +kernel, by decide +kernel⟩
abbrev s_law : Stmt := top 26
theorem sc_law : FnScope ["script", "pool", "memory", "places", "roots", "told", "other", "behind", "paper", "rows", "own", "roots_behind", "moves", "again", "k", "old", "new"] ["script"] (defScope s_law) := ⟨rfl, rfl, rfl, by decide +kernel, rfl, by decide +kernel, by decide +kernel⟩
abbrev FnP (K : PySem.W.Frag) (x q : Str) (st : Stmt) (f : Addr) (fd : FuncData) : Prop := FunD K x q (defArgs st) (defBody st) (defScope st) [] [] f fd
structure Txt (K : PySem.W.Frag) (mg : Str → Option Value) where
  d_is_cell : FuncData
  d_cell_size : FuncData
  d_Collector___init__ : FuncData
  d_Collector_moved_value : FuncData
  d_Collector_run : FuncData
  d_collected : FuncData
  d_starts_in : FuncData
  d_reached_from : FuncData
  d_check_collected : FuncData
  d_turned : FuncData
  d__law_cell : FuncData
  d__law_numbers : FuncData
  d__law_pool : FuncData
  d__law_draw : FuncData
  d__law_kind : FuncData
  d__law_equal : FuncData
  d__law_is : FuncData
  d__law_up : FuncData
  d__law_pick : FuncData
  d__law_memory : FuncData
  d__law_value : FuncData
  d__law_reach : FuncData
  d__law_right : FuncData
  d_law : FuncData
  t_WORDS : Tok
  t_MOVED : Tok
  t_HEAD : Tok
  g_is_cell : mg "is_cell" = some (.ref (He.ga K "is_cell"))
  g_cell_size : mg "cell_size" = some (.ref (He.ga K "cell_size"))
  g_collected : mg "collected" = some (.ref (He.ga K "collected"))
  g_starts_in : mg "starts_in" = some (.ref (He.ga K "starts_in"))
  g_reached_from : mg "reached_from" = some (.ref (He.ga K "reached_from"))
  g_check_collected : mg "check_collected" = some (.ref (He.ga K "check_collected"))
  g_turned : mg "turned" = some (.ref (He.ga K "turned"))
  g__law_cell : mg "_law_cell" = some (.ref (He.ga K "_law_cell"))
  g__law_numbers : mg "_law_numbers" = some (.ref (He.ga K "_law_numbers"))
  g__law_pool : mg "_law_pool" = some (.ref (He.ga K "_law_pool"))
  g__law_draw : mg "_law_draw" = some (.ref (He.ga K "_law_draw"))
  g__law_kind : mg "_law_kind" = some (.ref (He.ga K "_law_kind"))
  g__law_equal : mg "_law_equal" = some (.ref (He.ga K "_law_equal"))
  g__law_is : mg "_law_is" = some (.ref (He.ga K "_law_is"))
  g__law_up : mg "_law_up" = some (.ref (He.ga K "_law_up"))
  g__law_pick : mg "_law_pick" = some (.ref (He.ga K "_law_pick"))
  g__law_memory : mg "_law_memory" = some (.ref (He.ga K "_law_memory"))
  g__law_value : mg "_law_value" = some (.ref (He.ga K "_law_value"))
  g__law_reach : mg "_law_reach" = some (.ref (He.ga K "_law_reach"))
  g__law_right : mg "_law_right" = some (.ref (He.ga K "_law_right"))
  g_law : mg "law" = some (.ref (He.ga K "law"))
  g_Collector : mg "Collector" = some (.ref (He.ga K "Collector"))
  c_Collector : Cls K (He.ga K "Collector")
  m_Collector : Mk K (He.ga K "Collector") (He.ma K (He.ga K "Collector") "__init__")
  n_Collector_old : NoAttr K (He.ga K "Collector") "old"
  n_Collector_new : NoAttr K (He.ga K "Collector") "new"
  n_Collector_moved : NoAttr K (He.ga K "Collector") "moved"
  mt_Collector_moved_value : Meth K (He.ga K "Collector") "moved_value" (He.ma K (He.ga K "Collector") "moved_value")
  mt_Collector_run : Meth K (He.ga K "Collector") "run" (He.ma K (He.ga K "Collector") "run")
  len : mg "len" = none
  range : mg "range" = none
  list : mg "list" = none
  tuple : mg "tuple" = none
  dict : mg "dict" = none
  sorted : mg "sorted" = none
  int : mg "int" = none
  str : mg "str" = none
  isinstance : mg "isinstance" = none
  max : mg "max" = none
  min : mg "min" = none
  bool : mg "bool" = none
  F_is_cell : FnP K "is_cell" "is_cell" s_is_cell (He.ga K "is_cell") d_is_cell
  b_is_cell : Binds K d_is_cell ["value"] []
  F_cell_size : FnP K "cell_size" "cell_size" s_cell_size (He.ga K "cell_size") d_cell_size
  b_cell_size : Binds K d_cell_size ["memory", "at"] []
  F_Collector___init__ : FnP K "__init__" "Collector.__init__" s_Collector___init__ (He.ma K (He.ga K "Collector") "__init__") d_Collector___init__
  b_Collector___init__ : Binds K d_Collector___init__ ["self", "memory"] []
  F_Collector_moved_value : FnP K "moved_value" "Collector.moved_value" s_Collector_moved_value (He.ma K (He.ga K "Collector") "moved_value") d_Collector_moved_value
  b_Collector_moved_value : Binds K d_Collector_moved_value ["self", "value"] []
  F_Collector_run : FnP K "run" "Collector.run" s_Collector_run (He.ma K (He.ga K "Collector") "run") d_Collector_run
  b_Collector_run : Binds K d_Collector_run ["self"] []
  F_collected : FnP K "collected" "collected" s_collected (He.ga K "collected") d_collected
  b_collected : Binds K d_collected ["memory", "roots"] []
  F_starts_in : FnP K "starts_in" "starts_in" s_starts_in (He.ga K "starts_in") d_starts_in
  b_starts_in : Binds K d_starts_in ["memory"] []
  F_reached_from : FnP K "reached_from" "reached_from" s_reached_from (He.ga K "reached_from") d_reached_from
  b_reached_from : Binds K d_reached_from ["memory", "roots"] []
  F_check_collected : FnP K "check_collected" "check_collected" s_check_collected (He.ga K "check_collected") d_check_collected
  b_check_collected : Binds K d_check_collected ["memory", "roots", "other", "behind", "paper"] []
  F_turned : FnP K "turned" "turned" s_turned (He.ga K "turned") d_turned
  b_turned : Binds K d_turned ["moved", "value"] []
  F__law_cell : FnP K "_law_cell" "_law_cell" s_law_cell (He.ga K "_law_cell") d__law_cell
  b__law_cell : Binds K d__law_cell ["script", "k"] []
  F__law_numbers : FnP K "_law_numbers" "_law_numbers" s_law_numbers (He.ga K "_law_numbers") d__law_numbers
  b__law_numbers : Binds K d__law_numbers ["cell", "many"] []
  F__law_pool : FnP K "_law_pool" "_law_pool" s_law_pool (He.ga K "_law_pool") d__law_pool
  b__law_pool : Binds K d__law_pool ["script"] []
  F__law_draw : FnP K "_law_draw" "_law_draw" s_law_draw (He.ga K "_law_draw") d__law_draw
  b__law_draw : Binds K d__law_draw ["pool", "many"] []
  F__law_kind : FnP K "_law_kind" "_law_kind" s_law_kind (He.ga K "_law_kind") d__law_kind
  b__law_kind : Binds K d__law_kind ["x"] []
  F__law_equal : FnP K "_law_equal" "_law_equal" s_law_equal (He.ga K "_law_equal") d__law_equal
  b__law_equal : Binds K d__law_equal ["x", "due"] []
  F__law_is : FnP K "_law_is" "_law_is" s_law_is (He.ga K "_law_is") d__law_is
  b__law_is : Binds K d__law_is ["x", "due"] []
  F__law_up : FnP K "_law_up" "_law_up" s_law_up (He.ga K "_law_up") d__law_up
  b__law_up : Binds K d__law_up ["x"] []
  F__law_pick : FnP K "_law_pick" "_law_pick" s_law_pick (He.ga K "_law_pick") d__law_pick
  b__law_pick : Binds K d__law_pick ["pool", "rows"] []
  F__law_memory : FnP K "_law_memory" "_law_memory" s_law_memory (He.ga K "_law_memory") d__law_memory
  b__law_memory : Binds K d__law_memory ["pool"] []
  F__law_value : FnP K "_law_value" "_law_value" s_law_value (He.ga K "_law_value") d__law_value
  b__law_value : Binds K d__law_value ["pool", "places"] []
  F__law_reach : FnP K "_law_reach" "_law_reach" s_law_reach (He.ga K "_law_reach") d__law_reach
  b__law_reach : Binds K d__law_reach ["memory", "roots"] []
  F__law_right : FnP K "_law_right" "_law_right" s_law_right (He.ga K "_law_right") d__law_right
  b__law_right : Binds K d__law_right ["memory", "roots", "other", "behind", "paper"] []
  F_law : FnP K "law" "law" s_law (He.ga K "law") d_law
  b_law : Binds K d_law ["script"] []
  WORDS : mg "WORDS" = some (.int 10000 t_WORDS)
  MOVED : mg "MOVED" = some (.int 9 t_MOVED)
  HEAD : mg "HEAD" = some (.int 3 t_HEAD)
def fnL : List He.DefD := [⟨("is_cell", none), "is_cell", "is_cell", defArgs s_is_cell, defBody s_is_cell, defScope s_is_cell, [], []⟩,
  ⟨("cell_size", none), "cell_size", "cell_size", defArgs s_cell_size, defBody s_cell_size, defScope s_cell_size, [], []⟩,
  ⟨("Collector", some "__init__"), "__init__", "Collector.__init__", defArgs s_Collector___init__, defBody s_Collector___init__, defScope s_Collector___init__, [], []⟩,
  ⟨("Collector", some "moved_value"), "moved_value", "Collector.moved_value", defArgs s_Collector_moved_value, defBody s_Collector_moved_value, defScope s_Collector_moved_value, [], []⟩,
  ⟨("Collector", some "run"), "run", "Collector.run", defArgs s_Collector_run, defBody s_Collector_run, defScope s_Collector_run, [], []⟩,
  ⟨("collected", none), "collected", "collected", defArgs s_collected, defBody s_collected, defScope s_collected, [], []⟩,
  ⟨("starts_in", none), "starts_in", "starts_in", defArgs s_starts_in, defBody s_starts_in, defScope s_starts_in, [], []⟩,
  ⟨("reached_from", none), "reached_from", "reached_from", defArgs s_reached_from, defBody s_reached_from, defScope s_reached_from, [], []⟩,
  ⟨("check_collected", none), "check_collected", "check_collected", defArgs s_check_collected, defBody s_check_collected, defScope s_check_collected, [], []⟩,
  ⟨("turned", none), "turned", "turned", defArgs s_turned, defBody s_turned, defScope s_turned, [], []⟩,
  ⟨("_law_cell", none), "_law_cell", "_law_cell", defArgs s_law_cell, defBody s_law_cell, defScope s_law_cell, [], []⟩,
  ⟨("_law_numbers", none), "_law_numbers", "_law_numbers", defArgs s_law_numbers, defBody s_law_numbers, defScope s_law_numbers, [], []⟩,
  ⟨("_law_pool", none), "_law_pool", "_law_pool", defArgs s_law_pool, defBody s_law_pool, defScope s_law_pool, [], []⟩,
  ⟨("_law_draw", none), "_law_draw", "_law_draw", defArgs s_law_draw, defBody s_law_draw, defScope s_law_draw, [], []⟩,
  ⟨("_law_kind", none), "_law_kind", "_law_kind", defArgs s_law_kind, defBody s_law_kind, defScope s_law_kind, [], []⟩,
  ⟨("_law_equal", none), "_law_equal", "_law_equal", defArgs s_law_equal, defBody s_law_equal, defScope s_law_equal, [], []⟩,
  ⟨("_law_is", none), "_law_is", "_law_is", defArgs s_law_is, defBody s_law_is, defScope s_law_is, [], []⟩,
  ⟨("_law_up", none), "_law_up", "_law_up", defArgs s_law_up, defBody s_law_up, defScope s_law_up, [], []⟩,
  ⟨("_law_pick", none), "_law_pick", "_law_pick", defArgs s_law_pick, defBody s_law_pick, defScope s_law_pick, [], []⟩,
  ⟨("_law_memory", none), "_law_memory", "_law_memory", defArgs s_law_memory, defBody s_law_memory, defScope s_law_memory, [], []⟩,
  ⟨("_law_value", none), "_law_value", "_law_value", defArgs s_law_value, defBody s_law_value, defScope s_law_value, [], []⟩,
  ⟨("_law_reach", none), "_law_reach", "_law_reach", defArgs s_law_reach, defBody s_law_reach, defScope s_law_reach, [], []⟩,
  ⟨("_law_right", none), "_law_right", "_law_right", defArgs s_law_right, defBody s_law_right, defScope s_law_right, [], []⟩,
  ⟨("law", none), "law", "law", defArgs s_law, defBody s_law, defScope s_law, [], []⟩]
def faL : List He.Fa := [.glo "is_cell", .glo "cell_size", .glo "collected", .glo "starts_in", .glo "reached_from", .glo "check_collected", .glo "turned", .glo "_law_cell", .glo "_law_numbers", .glo "_law_pool", .glo "_law_draw", .glo "_law_kind", .glo "_law_equal", .glo "_law_is", .glo "_law_up", .glo "_law_pick", .glo "_law_memory", .glo "_law_value", .glo "_law_reach", .glo "_law_right", .glo "law", .glo "Collector", .cls "Collector", .mkr "Collector", .noat "Collector" "old", .noat "Collector" "new", .noat "Collector" "moved", .meth "Collector" "moved_value", .meth "Collector" "run", .free "len", .free "range", .free "list", .free "tuple", .free "dict", .free "sorted", .free "int", .free "str", .free "isinstance", .free "max", .free "min", .free "bool", .int "WORDS" 10000, .int "MOVED" 9, .int "HEAD" 3]
theorem txt_of {K : PySem.W.Frag} {h : Heap} {mg : Str → Option Value} (X : K.In h) (G : h.Ns mainGlobals mg) (c : He.SaysD faL fnL K) : Nonempty (Txt K mg) := by
  obtain ⟨t_WORDS, e_WORDS⟩ := He.int_ok X G (c.fact 41 (f := .int "WORDS" 10000) rfl)
  obtain ⟨t_MOVED, e_MOVED⟩ := He.int_ok X G (c.fact 42 (f := .int "MOVED" 9) rfl)
  obtain ⟨t_HEAD, e_HEAD⟩ := He.int_ok X G (c.fact 43 (f := .int "HEAD" 3) rfl)
  obtain ⟨d_is_cell, F_is_cell⟩ := c.def_ 0 rfl
  obtain ⟨d_cell_size, F_cell_size⟩ := c.def_ 1 rfl
  obtain ⟨d_Collector___init__, F_Collector___init__⟩ := c.def_ 2 rfl
  obtain ⟨d_Collector_moved_value, F_Collector_moved_value⟩ := c.def_ 3 rfl
  obtain ⟨d_Collector_run, F_Collector_run⟩ := c.def_ 4 rfl
  obtain ⟨d_collected, F_collected⟩ := c.def_ 5 rfl
  obtain ⟨d_starts_in, F_starts_in⟩ := c.def_ 6 rfl
  obtain ⟨d_reached_from, F_reached_from⟩ := c.def_ 7 rfl
  obtain ⟨d_check_collected, F_check_collected⟩ := c.def_ 8 rfl
  obtain ⟨d_turned, F_turned⟩ := c.def_ 9 rfl
  obtain ⟨d__law_cell, F__law_cell⟩ := c.def_ 10 rfl
  obtain ⟨d__law_numbers, F__law_numbers⟩ := c.def_ 11 rfl
  obtain ⟨d__law_pool, F__law_pool⟩ := c.def_ 12 rfl
  obtain ⟨d__law_draw, F__law_draw⟩ := c.def_ 13 rfl
  obtain ⟨d__law_kind, F__law_kind⟩ := c.def_ 14 rfl
  obtain ⟨d__law_equal, F__law_equal⟩ := c.def_ 15 rfl
  obtain ⟨d__law_is, F__law_is⟩ := c.def_ 16 rfl
  obtain ⟨d__law_up, F__law_up⟩ := c.def_ 17 rfl
  obtain ⟨d__law_pick, F__law_pick⟩ := c.def_ 18 rfl
  obtain ⟨d__law_memory, F__law_memory⟩ := c.def_ 19 rfl
  obtain ⟨d__law_value, F__law_value⟩ := c.def_ 20 rfl
  obtain ⟨d__law_reach, F__law_reach⟩ := c.def_ 21 rfl
  obtain ⟨d__law_right, F__law_right⟩ := c.def_ 22 rfl
  obtain ⟨d_law, F_law⟩ := c.def_ 23 rfl
  exact ⟨{
    d_is_cell := d_is_cell,
    d_cell_size := d_cell_size,
    d_Collector___init__ := d_Collector___init__,
    d_Collector_moved_value := d_Collector_moved_value,
    d_Collector_run := d_Collector_run,
    d_collected := d_collected,
    d_starts_in := d_starts_in,
    d_reached_from := d_reached_from,
    d_check_collected := d_check_collected,
    d_turned := d_turned,
    d__law_cell := d__law_cell,
    d__law_numbers := d__law_numbers,
    d__law_pool := d__law_pool,
    d__law_draw := d__law_draw,
    d__law_kind := d__law_kind,
    d__law_equal := d__law_equal,
    d__law_is := d__law_is,
    d__law_up := d__law_up,
    d__law_pick := d__law_pick,
    d__law_memory := d__law_memory,
    d__law_value := d__law_value,
    d__law_reach := d__law_reach,
    d__law_right := d__law_right,
    d_law := d_law,
    t_WORDS := t_WORDS,
    t_MOVED := t_MOVED,
    t_HEAD := t_HEAD,
    g_is_cell := He.glo_ok X G (c.fact 0 rfl),
    g_cell_size := He.glo_ok X G (c.fact 1 rfl),
    g_collected := He.glo_ok X G (c.fact 2 rfl),
    g_starts_in := He.glo_ok X G (c.fact 3 rfl),
    g_reached_from := He.glo_ok X G (c.fact 4 rfl),
    g_check_collected := He.glo_ok X G (c.fact 5 rfl),
    g_turned := He.glo_ok X G (c.fact 6 rfl),
    g__law_cell := He.glo_ok X G (c.fact 7 rfl),
    g__law_numbers := He.glo_ok X G (c.fact 8 rfl),
    g__law_pool := He.glo_ok X G (c.fact 9 rfl),
    g__law_draw := He.glo_ok X G (c.fact 10 rfl),
    g__law_kind := He.glo_ok X G (c.fact 11 rfl),
    g__law_equal := He.glo_ok X G (c.fact 12 rfl),
    g__law_is := He.glo_ok X G (c.fact 13 rfl),
    g__law_up := He.glo_ok X G (c.fact 14 rfl),
    g__law_pick := He.glo_ok X G (c.fact 15 rfl),
    g__law_memory := He.glo_ok X G (c.fact 16 rfl),
    g__law_value := He.glo_ok X G (c.fact 17 rfl),
    g__law_reach := He.glo_ok X G (c.fact 18 rfl),
    g__law_right := He.glo_ok X G (c.fact 19 rfl),
    g_law := He.glo_ok X G (c.fact 20 rfl),
    g_Collector := He.glo_ok X G (c.fact 21 rfl),
    c_Collector := He.cls_ok (c.fact 22 rfl),
    m_Collector := He.mkr_ok (c.fact 23 rfl),
    n_Collector_old := He.noat_ok (c.fact 24 rfl),
    n_Collector_new := He.noat_ok (c.fact 25 rfl),
    n_Collector_moved := He.noat_ok (c.fact 26 rfl),
    mt_Collector_moved_value := He.meth_ok (c.fact 27 rfl),
    mt_Collector_run := He.meth_ok (c.fact 28 rfl),
    len := He.free_ok X G (c.fact 29 rfl),
    range := He.free_ok X G (c.fact 30 rfl),
    list := He.free_ok X G (c.fact 31 rfl),
    tuple := He.free_ok X G (c.fact 32 rfl),
    dict := He.free_ok X G (c.fact 33 rfl),
    sorted := He.free_ok X G (c.fact 34 rfl),
    int := He.free_ok X G (c.fact 35 rfl),
    str := He.free_ok X G (c.fact 36 rfl),
    isinstance := He.free_ok X G (c.fact 37 rfl),
    max := He.free_ok X G (c.fact 38 rfl),
    min := He.free_ok X G (c.fact 39 rfl),
    bool := He.free_ok X G (c.fact 40 rfl),
    F_is_cell := F_is_cell,
    b_is_cell := (F_is_cell.bindsN (ps := ["value"]) fun _ _ _ _ _ _ us hl => match us, hl with | [_], _ => rfl),
    F_cell_size := F_cell_size,
    b_cell_size := (F_cell_size.bindsN (ps := ["memory", "at"]) fun _ _ _ _ _ _ us hl => match us, hl with | [_, _], _ => rfl),
    F_Collector___init__ := F_Collector___init__,
    b_Collector___init__ := (F_Collector___init__.bindsN (ps := ["self", "memory"]) fun _ _ _ _ _ _ us hl => match us, hl with | [_, _], _ => rfl),
    F_Collector_moved_value := F_Collector_moved_value,
    b_Collector_moved_value := (F_Collector_moved_value.bindsN (ps := ["self", "value"]) fun _ _ _ _ _ _ us hl => match us, hl with | [_, _], _ => rfl),
    F_Collector_run := F_Collector_run,
    b_Collector_run := (F_Collector_run.bindsN (ps := ["self"]) fun _ _ _ _ _ _ us hl => match us, hl with | [_], _ => rfl),
    F_collected := F_collected,
    b_collected := (F_collected.bindsN (ps := ["memory", "roots"]) fun _ _ _ _ _ _ us hl => match us, hl with | [_, _], _ => rfl),
    F_starts_in := F_starts_in,
    b_starts_in := (F_starts_in.bindsN (ps := ["memory"]) fun _ _ _ _ _ _ us hl => match us, hl with | [_], _ => rfl),
    F_reached_from := F_reached_from,
    b_reached_from := (F_reached_from.bindsN (ps := ["memory", "roots"]) fun _ _ _ _ _ _ us hl => match us, hl with | [_, _], _ => rfl),
    F_check_collected := F_check_collected,
    b_check_collected := (F_check_collected.bindsN (ps := ["memory", "roots", "other", "behind", "paper"]) fun _ _ _ _ _ _ us hl => match us, hl with | [_, _, _, _, _], _ => rfl),
    F_turned := F_turned,
    b_turned := (F_turned.bindsN (ps := ["moved", "value"]) fun _ _ _ _ _ _ us hl => match us, hl with | [_, _], _ => rfl),
    F__law_cell := F__law_cell,
    b__law_cell := (F__law_cell.bindsN (ps := ["script", "k"]) fun _ _ _ _ _ _ us hl => match us, hl with | [_, _], _ => rfl),
    F__law_numbers := F__law_numbers,
    b__law_numbers := (F__law_numbers.bindsN (ps := ["cell", "many"]) fun _ _ _ _ _ _ us hl => match us, hl with | [_, _], _ => rfl),
    F__law_pool := F__law_pool,
    b__law_pool := (F__law_pool.bindsN (ps := ["script"]) fun _ _ _ _ _ _ us hl => match us, hl with | [_], _ => rfl),
    F__law_draw := F__law_draw,
    b__law_draw := (F__law_draw.bindsN (ps := ["pool", "many"]) fun _ _ _ _ _ _ us hl => match us, hl with | [_, _], _ => rfl),
    F__law_kind := F__law_kind,
    b__law_kind := (F__law_kind.bindsN (ps := ["x"]) fun _ _ _ _ _ _ us hl => match us, hl with | [_], _ => rfl),
    F__law_equal := F__law_equal,
    b__law_equal := (F__law_equal.bindsN (ps := ["x", "due"]) fun _ _ _ _ _ _ us hl => match us, hl with | [_, _], _ => rfl),
    F__law_is := F__law_is,
    b__law_is := (F__law_is.bindsN (ps := ["x", "due"]) fun _ _ _ _ _ _ us hl => match us, hl with | [_, _], _ => rfl),
    F__law_up := F__law_up,
    b__law_up := (F__law_up.bindsN (ps := ["x"]) fun _ _ _ _ _ _ us hl => match us, hl with | [_], _ => rfl),
    F__law_pick := F__law_pick,
    b__law_pick := (F__law_pick.bindsN (ps := ["pool", "rows"]) fun _ _ _ _ _ _ us hl => match us, hl with | [_, _], _ => rfl),
    F__law_memory := F__law_memory,
    b__law_memory := (F__law_memory.bindsN (ps := ["pool"]) fun _ _ _ _ _ _ us hl => match us, hl with | [_], _ => rfl),
    F__law_value := F__law_value,
    b__law_value := (F__law_value.bindsN (ps := ["pool", "places"]) fun _ _ _ _ _ _ us hl => match us, hl with | [_, _], _ => rfl),
    F__law_reach := F__law_reach,
    b__law_reach := (F__law_reach.bindsN (ps := ["memory", "roots"]) fun _ _ _ _ _ _ us hl => match us, hl with | [_, _], _ => rfl),
    F__law_right := F__law_right,
    b__law_right := (F__law_right.bindsN (ps := ["memory", "roots", "other", "behind", "paper"]) fun _ _ _ _ _ _ us hl => match us, hl with | [_, _, _, _, _], _ => rfl),
    F_law := F_law,
    b_law := (F_law.bindsN (ps := ["script"]) fun _ _ _ _ _ _ us hl => match us, hl with | [_], _ => rfl),
    WORDS := e_WORDS,
    MOVED := e_MOVED,
    HEAD := e_HEAD }⟩
abbrev RR : PySem.W.OpenRow := PySem.W.OpenLaw.row PySem.Challenge.rw_wholedown_k63_whole_collections_are_judg
abbrev hk : PySem.W.Hook := He.hookD 6 faL fnL
def ob (s : PySem.W.SharedT) : He.AlD := He.obsDG 6 faL fnL (HandSHeadRun.getT s)
theorem ob_eq (s : PySem.W.SharedT) : ob s = hk.obs s.abs := He.obsDG_eq (HandSHeadRun.getT_eq s)
def looseN : List Str := ["is_cell", "cell_size", "collected", "starts_in", "reached_from", "check_collected", "turned", "_law_cell", "_law_numbers", "_law_pool", "_law_draw", "_law_kind", "_law_equal", "_law_is", "_law_up", "_law_pick", "_law_memory", "_law_value", "_law_reach", "_law_right", "Collector", "WORDS", "MOVED", "HEAD"]
theorem run (w : World) : HandSHeadRun.RunEq RR (PySem.W.view RR.prog [26]) hk ob 20000 looseN w := by
  intro os
  kernel_rfl
end K63

set_option Elab.async false
set_option linter.all false
set_option maxRecDepth 100000
set_option maxHeartbeats 4000000
namespace K63
open PySem PySem.Spec PyProof.Rows L2
abbrev vi (ns : List Int) : List V := ns.map V.int
theorem vi_at {m : List Int} {j : Nat} {v : Int} (h : m[j]? = some v) : atI (vi m) ((j : Nat) : Int) = some (V.int v) := atI_nat (by rw [List.getElem?_map, h]; rfl)
theorem _root_.L2.Same.sqt {K : PySem.W.Frag} {H H' : Hp} {a : Addr} {xs : List V} (e : Same H H') (h : SqT K H a xs) : SqT K H' a xs := by
  rcases h with (h | ⟨o, h⟩) | h
  · exact .inl (.inl (e _ _ h))
  · exact .inl (.inr ⟨o, e _ _ h⟩)
  · exact .inr h
theorem pe_gi {X : Cx} {x : Str} {i : Int} {t : PySem.Tok} {pos : Pos} (h : Gl X x) (hm : X.mg x = some (.int i t)) (hd : (x == ("__debug__" : Str)) = false := by decide) : PE X (.Name x pos) (tC (.int i)) := pe_glob (v := .int i) h hm ⟨t, rfl⟩ hd
def spIsCell : Sp := fun vs H Q _ => ∃ v : Int, vs = [.int v] ∧ Q (.bl (decide (v ≥ 10000))) H
def spSizeL (K : PySem.W.Frag) : Sp := fun vs H Q _ => ∃ (a : Addr) (p : Nat) (m : List Int) (n : Int), vs = [.ref a, .int (p : Nat)] ∧ SqL K H a (vi m) ∧ m[p + 2]? = some n ∧ Q (.int (3 + n)) H
def spSizeT (K : PySem.W.Frag) : Sp := fun vs H Q _ => ∃ (a : Addr) (p : Nat) (m : List Int) (n : Int), vs = [.ref a, .int (p : Nat)] ∧ SqT K H a (vi m) ∧ m[p + 2]? = some n ∧ Q (.int (3 + n)) H
def spTurned : Sp := fun vs H Q _ => ∃ (d : Addr) (v : Int) (ps : List (Int × Int)), vs = [.ref d, .int v] ∧ H d = some (.dK (ps.map fun e => (Sum.inl e.1, V.int e.2))) ∧ (10000 ≤ v → ∃ n, ps.lookup (v - 10000) = some n) ∧ Q (.int (tv ps v)) H
def spStarts (K : PySem.W.Frag) : Sp := fun vs H Q _ => ∃ (a : Addr) (O : Rows), vs = [.ref a] ∧ Wf O ∧ SqT K H a (vi O.flatten) ∧ ∀ H' q, Same H H' → H q = none → H' q = some (.lst (vi (starts O))) → Q (.ref q) H'
theorem valV_ip (ps : List (Int × Int)) (k : Int) : valV (ps.map fun e => ((Sum.inl e.1 : Key), V.int e.2)) (Sum.inl k) = (ps.lookup k).map V.int := by
  induction ps with
  | nil => rfl
  | cons e t ih =>
    obtain ⟨a, b⟩ := e
    rw [List.map_cons, List.lookup_cons]
    by_cases h : a = k
    · subst h
      rw [valV_pos rfl]; simp
    · rw [valV_neg (fun z => h (Sum.inl.inj z)), ih, show (k == a) = false from beq_eq_false_iff_ne.mpr fun z => h z.symm]
section
variable {P : Program} {w : World} {K : PySem.W.Frag} {mg : Str → Option Value} {base : Heap} (T : Txt K mg)
include T
theorem ok_is_cell : FnOk P w K mg base CX0 1 (He.ga K "is_cell") T.d_is_cell ["value"] spIsCell := by
  refine T.F_is_cell.ok sc_is_cell (fun vs H Q E h => ?_) (fun cdv A outer s H vs Q E hr h => ?_)
  · obtain ⟨v, rfl, _⟩ := h; rfl
  · obtain ⟨v, rfl, q⟩ := h
    exact ⟨_, PSs.nox (pss_one (ps_ret (pe_cmpR op_ge (pv 0) (pe_gi rfl T.WORDS) (nomark _)))), _, rfl, _, _, rfl, rfl, q⟩
theorem ok_cell_sizeL : FnOk P w K mg base CX0 1 (He.ga K "cell_size") T.d_cell_size ["memory", "at"] (spSizeL K) := by
  refine T.F_cell_size.ok sc_cell_size (fun vs H Q E h => ?_) (fun cdv A outer s H vs Q E hr h => ?_)
  · obtain ⟨a, p, m, n, rfl, _⟩ := h; rfl
  · obtain ⟨a, p, m, n, rfl, hm, e, q⟩ := h
    refine ⟨_, PSs.nox (pss_one (ps_ret (pe_op op_add (pe_gi rfl T.HEAD) (pe_ix ix_list (pv 0) (pe_op op_add (pv 1) pe_int) (fun _ _ => rfl))))), ?_⟩
    exact ⟨_, rfl, _, rfl, _, _, rfl, rfl, _, _, _, _, rfl, rfl, hm, vi_at (j := p + 2) e, _, _, rfl, rfl, q⟩
theorem ok_cell_sizeT : FnOk P w K mg base CX0 1 (He.ga K "cell_size") T.d_cell_size ["memory", "at"] (spSizeT K) := by
  refine T.F_cell_size.ok sc_cell_size (fun vs H Q E h => ?_) (fun cdv A outer s H vs Q E hr h => ?_)
  · obtain ⟨a, p, m, n, rfl, _⟩ := h; rfl
  · obtain ⟨a, p, m, n, rfl, hm, e, q⟩ := h
    refine ⟨_, PSs.nox (pss_one (ps_ret (pe_op op_add (pe_gi rfl T.HEAD) (pe_ix ix_tup (pv 0) (pe_op op_add (pv 1) pe_int) (fun _ _ => rfl))))), ?_⟩
    exact ⟨_, rfl, _, rfl, _, _, rfl, rfl, _, _, _, _, rfl, rfl, hm, vi_at (j := p + 2) e, _, _, rfl, rfl, q⟩
theorem ok_turned : FnOk P w K mg base CX0 2 (He.ga K "turned") T.d_turned ["moved", "value"] spTurned := by
  have G_is_cell := ok_is_cell (P := P) (w := w) (base := base) T
  refine T.F_turned.ok sc_turned (fun vs H Q E h => ?_) (fun cdv A outer s H vs Q E hr h => ?_)
  · obtain ⟨d, v, ps, rfl, _⟩ := h; rfl
  · obtain ⟨d, v, ps, rfl, hd, hv, q⟩ := h
    refine ⟨_, PSs.nox (pss_one (ps_ret (pe_ifExp (pt_val (pe_call G_is_cell hr (by rfl) T.g_is_cell T.F_is_cell.kp T.b_is_cell .nil pass0 (pa_cons (pv 1) pa_nil))) (pe_op op_add (pe_gi rfl T.WORDS) (pe_dget (hu_of hr) (pv 0) (pe_op op_sub (pv 1) (pe_gi rfl T.WORDS)) (fun _ _ => rfl))) (pv 1)))), ?_⟩
    refine ⟨_, rfl, v, rfl, _, rfl, ?_⟩
    refine ite2 (fun h1 => ?_) (fun h1 => ?_)
    · have h2 : 10000 ≤ v := of_decide_eq_true h1
      obtain ⟨n, hn⟩ := hv h2
      have e : DGet H d (.int (v - 10000)) (some (V.int n)) := by
        have g := DGet.k (k := Sum.inl (v - 10000)) hd
        rw [valV_ip, hn] at g; exact g
      refine ⟨_, rfl, _, rfl, _, _, rfl, rfl, d, V.int n, rfl, e, _, _, rfl, rfl, ?_⟩
      have et : tv ps v = 10000 + n := by unfold tv; rw [if_neg (by omega), hn]; rfl
      rw [et] at q; exact q
    · have h2 : ¬ (v ≥ 10000) := fun z => h1 (decide_eq_true z)
      have et : tv ps v = v := by unfold tv; rw [if_pos (by omega)]
      rw [et] at q
      exact ⟨_, rfl, q⟩
end
end K63

set_option Elab.async false
set_option linter.all false
set_option maxRecDepth 100000
set_option maxHeartbeats 4000000
namespace K63
open PySem PySem.Spec PyProof.Rows L2
theorem str_on : ¬ (("old" : Str) = "new") := by decide +kernel
theorem str_om : ¬ (("old" : Str) = "moved") := by decide +kernel
theorem str_nm : ¬ (("new" : Str) = "moved") := by decide +kernel
def cf (lo ln ld : Addr) : List (Str × V) := putF "moved" (.ref ld) (putF "new" (.ref ln) (putF "old" (.ref lo) []))
theorem cf_old (lo ln ld : Addr) : (cf lo ln ld).lookup ("old" : Str) = some (.ref lo) := by
  unfold cf; rw [lookup_putF, if_neg str_om, lookup_putF, if_neg str_on, lookup_putF, if_pos rfl]
theorem cf_new (lo ln ld : Addr) : (cf lo ln ld).lookup ("new" : Str) = some (.ref ln) := by
  unfold cf; rw [lookup_putF, if_neg str_nm, lookup_putF, if_pos rfl]
theorem cf_moved (lo ln ld : Addr) : (cf lo ln ld).lookup ("moved" : Str) = some (.ref ld) := by
  unfold cf; rw [lookup_putF, if_pos rfl]
theorem cf_no (lo ln ld : Addr) {m : Str} (h1 : ¬ m = "old") (h2 : ¬ m = "new") (h3 : ¬ m = "moved") : (cf lo ln ld).lookup m = none := by
  unfold cf; rw [lookup_putF, if_neg h3, lookup_putF, if_neg h2, lookup_putF, if_neg h1]; rfl
def kvi (ps : List (Int × Int)) : List (Key × V) := ps.map fun e => (Sum.inl e.1, V.int e.2)
def Cst (C : Addr) (H0 H : Hp) (p : Addr) (L : Rows) (ord : List Nat) (new : List Int) : Prop :=
  Same H0 H ∧ H0 p = none ∧ ∃ (dx lo ln ld : Addr) (old : List Int), H0 lo = none ∧ H0 ln = none ∧ H0 ld = none ∧ lo ≠ ln ∧ H p = some (.ins C dx (cf lo ln ld)) ∧ H lo = some (.lst (vi old)) ∧ H ln = some (.lst (vi new)) ∧
    H ld = some (.dK (kvi (mvs L ord))) ∧ OldOk L ord old ∧ new.length = tot L ord ∧ ord.Nodup ∧ ∀ j ∈ ord, j < L.length
theorem ixN_nat {n j : Nat} (h : j < n) : ixN n (j : Int) = some j := by
  unfold ixN; rw [if_pos (by omega), if_pos (by omega)]; rfl
theorem vi_set {xs : List Int} {j : Nat} {v : Int} : (vi xs).set j (.int v) = vi (xs.set j v) := by unfold vi; rw [List.map_set]
theorem vi_len {xs : List Int} : (vi xs).length = xs.length := List.length_map _
theorem vi_cut {xs : List Int} {a b : Nat} (h : a ≤ b) (hb : b ≤ xs.length) : cutV (vi xs) (some ((a : Nat) : Int)) (some ((b : Nat) : Int)) = vi ((xs.drop a).take (b - a)) := by
  unfold cutV vi
  rw [HT.sIx_nat, HT.sIx_nat, List.length_map, Nat.min_eq_left hb, Nat.min_eq_left (by omega), List.map_take, List.map_drop]
theorem _root_.L2.Same.upd_new {H0 H : Hp} {a : Addr} {o : HO} (h : Same H0 H) (ha : H0 a = none) : Same H0 (upd H a o) := fun b u e => by
  rw [upd_ne (ne_of_none e ha)]; exact h b u e
theorem valV_append_none {a b : List (Key × V)} {k : Key} (h : valV a k = none) : valV (a ++ b) k = valV b k := by
  unfold valV at h ⊢
  rw [List.find?_append]
  have e : a.find? (fun kv => decide (kv.1 = k)) = none := by
    cases q : a.find? (fun kv => decide (kv.1 = k)) with
    | none => rfl
    | some u => rw [q] at h; cases h
  rw [e]; rfl
def spMoved (C : Addr) : Sp := fun vs H Q _ => ∃ (H0 : Hp) (p : Addr) (v : Int) (L : Rows) (ord : List Nat) (new : List Int), vs = [.ref p, .int v] ∧ Wf L ∧ Cst C H0 H p L ord new ∧ VOk L v ∧
  ∀ H' ord' ext u, Visit L ord v ord' ext u → Cst C H0 H' p L ord' (new ++ ext) → Q (.int u) H'
section
variable {P : Program} {w : World} {K : PySem.W.Frag} {mg : Str → Option Value} {base : Heap} (T : Txt K mg)
include T
set_option maxHeartbeats 10000000 in
theorem ok_moved : FnOk P w K mg base CX0 2 (He.ma K (He.ga K "Collector") "moved_value") T.d_Collector_moved_value ["self", "value"] (spMoved (He.ga K "Collector")) := by
  have G_is_cell := ok_is_cell (P := P) (w := w) (base := base) T
  have G_cell_size := ok_cell_sizeL (P := P) (w := w) (base := base) T
  refine T.F_Collector_moved_value.ok sc_Collector_moved_value (fun vs H Q E h => ?_) (fun cdv A outer s H vs Q E hr h => ?_)
  · obtain ⟨H0, p, v, L, ord, new, rfl, _⟩ := h; rfl
  · obtain ⟨H0, p, v, L, ord, new, rfl, w, hC, hv, q⟩ := h
    refine ⟨_, PSs.nox (pss_cons (ps_if (pt_not (pt_val (pe_call G_is_cell hr (by rfl) T.g_is_cell T.F_is_cell.kp T.b_is_cell .nil pass0 (pa_cons (pv 1) pa_nil))))
    (pss_one (ps_ret (pv 1)))
    pss_nil)
    (pss_cons (ps_set (i := 2) sc_Collector_moved_value.nd rfl (.inl rfl) (pe_op op_sub (pv 1) (pe_gi (i := 10000) rfl T.WORDS)))
    (pss_cons (ps_if (pt_cmpR op_ne (pe_ix ix_list (pe_fld (pv 0) rfl) (pv 2) (fun _ _ => rfl)) (pe_gi (i := 9) rfl T.MOVED) (nomark _))
    (pss_cons (ps_dput (hu_of hr) (pe_fld (pv 0) rfl) (pv 2) (pe_callB call_len_seq (by rfl) T.len (by decide +kernel) (pa_cons (pe_fld (pv 0) rfl) pa_nil)) rfl)
    (pss_cons (ps_expr (pe_bm PySem.F.plainAttrs_list PySem.F.slot_list_extend PySem.F.type_list_extend mt_extend (pe_fld (pv 0) rfl) (pa_cons (pe_slice sl_list (pe_fld (pv 0) rfl) (po_some (pv 2)) (po_some (pe_op op_add (pv 2) (pe_call G_cell_size hr (by rfl) T.g_cell_size T.F_cell_size.kp T.b_cell_size .nil pass0 (pa_cons (pe_fld (pv 0) rfl) (pa_cons (pv 2) pa_nil)))))) pa_nil)))
    (pss_cons (ps_asg (pe_gi (i := 9) rfl T.MOVED) (pg_sub (pe_fld (pv 0) rfl) (pv 2) set_list))
    (pss_one (ps_asg (pe_dget (hu_of hr) (pe_fld (pv 0) rfl) (pv 2) (fun _ _ => rfl)) (pg_sub (pe_fld (pv 0) rfl) (pe_op op_add (pv 2) pe_int) set_list))))))
    pss_nil)
    (pss_one (ps_ret (pe_op op_add (pe_gi (i := 10000) rfl T.WORDS) (pe_ix ix_list (pe_fld (pv 0) rfl) (pe_op op_add (pv 2) pe_int) (fun _ _ => rfl)))))))), ?_⟩
    obtain ⟨s0, p0, dx, lo, ln_, ld, old, l0, n0, d0, hne, hp, ho, hn, hd, oo, htot, nd, hlt⟩ := id hC
    have fo : ∀ {H : Hp}, H p = some (.ins (He.ga K "Collector") dx (cf lo ln_ ld)) → True := fun _ => trivial
    refine ⟨_, rfl, v, rfl, _, rfl, ?_⟩
    refine ite2 (fun h1 => ?_) (fun h1 => ?_)
    · have h2 : v < 10000 := by simpa using h1
      refine ⟨_, rfl, q _ ord [] v (.inl ⟨h2, rfl, rfl, rfl⟩) ?_⟩
      rw [List.append_nil]; exact hC
    · have h2 : 10000 ≤ v := by simpa using h1
      obtain ⟨j, hj, ev⟩ : ∃ j, j < L.length ∧ v = 10000 + (st L j : Nat) := by
        rcases hv with hv | hv
        · omega
        · exact hv
      have eat : v - 10000 = ((st L j : Nat) : Int) := by omega
      refine ⟨_, rfl, _, _, rfl, rfl, ?_⟩
      dsimp only
      rw [eat]
      obtain ⟨k, hk, hk9⟩ := oo.kind w hj
      refine ⟨_, rfl, p, _, dx, _, _, rfl, hp, T.c_Collector, T.n_Collector_old, cf_old _ _ _, _, rfl, _, _, _, _, rfl, rfl, SqL.of ho, vi_at hk, rfl, _, rfl, ?_⟩
      refine ite2 (fun h3 => ?_) (fun h3 => ?_)
      · have hk' : ¬ k = 9 := by simpa using h3
        have hnot : j ∉ ord := fun z => hk' (hk9.mpr z)
        have npo : p ≠ lo := ne_of hp ho (by intro z; cases z)
        have npn : p ≠ ln_ := ne_of hp hn (by intro z; cases z)
        have npd : p ≠ ld := ne_of hp hd (by intro z; cases z)
        have nod : lo ≠ ld := ne_of ho hd (by intro z; cases z)
        have nnd : ln_ ≠ ld := ne_of hn hd (by intro z; cases z)
        have hl6 : ord.length ≤ 8 := by
          have h := List.Nodup.length_le_of_subset (l₂ := List.range L.length) nd fun j hj => List.mem_range.mpr (hlt j hj)
          rw [List.length_range] at h
          exact Nat.le_trans h w.many
        have ht6 := tot_small w hlt
        have hj3 := w.size j hj
        have hin := st_in hj
        have hf := flat_small w
        have hol := oo.len
        have enew : valV (kvi (mvs L ord)) (Sum.inl ((st L j : Nat) : Int)) = none := by
          unfold kvi; rw [valV_ip, mvs_not w hlt hj hnot]; rfl
        have eput : putK (kvi (mvs L ord)) (Sum.inl ((st L j : Nat) : Int)) (.int ((vi new).length : Int)) = kvi (mvs L (ord ++ [j])) := by
          rw [putK_new _ enew, mvs_new hnot, vi_len, htot]; unfold kvi; rw [List.map_append]; rfl
        have ecut : cutV (vi old) (some ((st L j : Nat) : Int)) (some (((st L j : Nat) : Int) + (3 + ((ln L j - 3 : Nat) : Int)))) = vi (row L j) := by
          have e : (((st L j : Nat) : Int) + (3 + ((ln L j - 3 : Nat) : Int))) = ((st L j + ln L j : Nat) : Int) := by omega
          rw [e, vi_cut (by omega) (by omega), Nat.add_sub_cancel_left, oo.cut hj hnot]
        -- moved
        refine ⟨_, rfl, p, _, dx, _, _, rfl, hp, T.c_Collector, T.n_Collector_new, cf_new _ _ _, ln_, _, rfl, .inl (SqL.of hn), _, rfl, p, _, dx, _, _, rfl, hp, T.c_Collector, T.n_Collector_moved, cf_moved _ _ _, _, rfl, ld, _, rfl, DPut.k (k := Sum.inl ((st L j : Nat) : Int)) hd (small1000 (by unfold kvi mvs; rw [List.length_map, List.length_map]; omega)), ?_⟩
        rw [eput]
        have hp1 : (upd H ld (.dK (kvi (mvs L (ord ++ [j]))))) p = some (.ins (He.ga K "Collector") dx (cf lo ln_ ld)) := by rw [upd_ne npd]; exact hp
        have ho1 : (upd H ld (.dK (kvi (mvs L (ord ++ [j]))))) lo = some (.lst (vi old)) := by rw [upd_ne nod]; exact ho
        have hn1 : (upd H ld (.dK (kvi (mvs L (ord ++ [j]))))) ln_ = some (.lst (vi new)) := by rw [upd_ne nnd]; exact hn
        have hd1 : (upd H ld (.dK (kvi (mvs L (ord ++ [j]))))) ld = some (.dK (kvi (mvs L (ord ++ [j])))) := upd_same
        have s1 : Same H0 (upd H ld (.dK (kvi (mvs L (ord ++ [j]))))) := s0.upd_new d0
        generalize upd H ld (.dK (kvi (mvs L (ord ++ [j])))) = H1 at hp1 ho1 hn1 hd1 s1 ⊢
        refine ⟨_, rfl, p, _, dx, _, _, rfl, hp1, T.c_Collector, T.n_Collector_new, cf_new _ _ _, .inl ⟨rfl, _, SqL.of hn1⟩, _, rfl, p, _, dx, _, _, rfl, hp1, T.c_Collector, T.n_Collector_old, cf_old _ _ _, _, rfl, _, rfl, _, rfl,
          _, rfl, p, _, dx, _, _, rfl, hp1, T.c_Collector, T.n_Collector_old, cf_old _ _ _, _, rfl, lo, st L j, old, _, rfl, SqL.of ho1, oo.third j hj, _, _, rfl, rfl, _, rfl, lo, _, rfl, SqL.of ho1, fun c hc => ?_⟩
        rw [ecut]
        have ncn : c ≠ ln_ := fun z => by rw [z, hn1] at hc; cases hc
        have nco : c ≠ lo := fun z => by rw [z, ho1] at hc; cases hc
        have ncp : c ≠ p := fun z => by rw [z, hp1] at hc; cases hc
        have ncd : c ≠ ld := fun z => by rw [z, hd1] at hc; cases hc
        refine ⟨ln_, c, _, _, rfl, rfl, (by rw [upd_ne ncn.symm]; exact hn1), upd_same, (by rw [vi_len, vi_len]; refine Nat.le_of_lt (small1000 ?_); unfold ln at hj3; omega), ?_⟩
        have c0 : H0 c = none := s1.free hc
        have ecat : vi new ++ vi (row L j) = vi (new ++ row L j) := by unfold vi; rw [List.map_append]
        rw [ecat]
        have hp2 : (upd (upd H1 c (.lst (vi (row L j)))) ln_ (.lst (vi (new ++ row L j)))) p = some (.ins (He.ga K "Collector") dx (cf lo ln_ ld)) := by rw [upd_ne npn, upd_ne ncp.symm]; exact hp1
        have ho2 : (upd (upd H1 c (.lst (vi (row L j)))) ln_ (.lst (vi (new ++ row L j)))) lo = some (.lst (vi old)) := by rw [upd_ne hne, upd_ne nco.symm]; exact ho1
        have hn2 : (upd (upd H1 c (.lst (vi (row L j)))) ln_ (.lst (vi (new ++ row L j)))) ln_ = some (.lst (vi (new ++ row L j))) := upd_same
        have hd2 : (upd (upd H1 c (.lst (vi (row L j)))) ln_ (.lst (vi (new ++ row L j)))) ld = some (.dK (kvi (mvs L (ord ++ [j])))) := by rw [upd_ne nnd.symm, upd_ne ncd.symm]; exact hd1
        have s2 : Same H0 (upd (upd H1 c (.lst (vi (row L j)))) ln_ (.lst (vi (new ++ row L j)))) := (s1.upd_new c0).upd_new n0
        generalize upd (upd H1 c (.lst (vi (row L j)))) ln_ (.lst (vi (new ++ row L j))) = H2 at hp2 ho2 hn2 hd2 s2 ⊢
        -- old[at] = MOVED
        refine ⟨_, rfl, p, _, dx, _, _, rfl, hp2, T.c_Collector, T.n_Collector_old, cf_old _ _ _, _, rfl, lo, _, _, st L j, rfl, rfl, ho2, ixN_nat (by rw [vi_len]; omega), ?_⟩
        rw [vi_set]
        have hp3 : (upd H2 lo (.lst (vi (old.set (st L j) 9)))) p = some (.ins (He.ga K "Collector") dx (cf lo ln_ ld)) := by rw [upd_ne npo]; exact hp2
        have hd3 : (upd H2 lo (.lst (vi (old.set (st L j) 9)))) ld = some (.dK (kvi (mvs L (ord ++ [j])))) := by rw [upd_ne nod.symm]; exact hd2
        have eget : valV (kvi (mvs L (ord ++ [j]))) (Sum.inl ((st L j : Nat) : Int)) = some (.int ((tot L ord : Nat) : Int)) := by
          rw [mvs_new hnot]; unfold kvi
          rw [List.map_append, valV_append_none]
          · exact valV_pos rfl
          · rw [valV_ip, mvs_not w hlt hj hnot]; rfl
        have hg : DGet (upd H2 lo (.lst (vi (old.set (st L j) 9)))) ld (.int ((st L j : Nat) : Int)) (some (.int ((tot L ord : Nat) : Int))) := by
          have g := DGet.k (k := Sum.inl ((st L j : Nat) : Int)) hd3
          rw [eget] at g; exact g
        refine ⟨_, rfl, p, _, dx, _, _, rfl, hp3, T.c_Collector, T.n_Collector_moved, cf_moved _ _ _, _, rfl, ld, _, rfl, hg, _, rfl, p, _, dx, _, _, rfl, hp3, T.c_Collector, T.n_Collector_old, cf_old _ _ _, _, rfl, _, _, rfl, rfl, lo, _, _, st L j + 1, rfl, rfl, upd_same, ixN_nat (j := st L j + 1) (by rw [vi_len, List.length_set]; omega), ?_⟩
        rw [vi_set]
        have oo' := oo.mark w hj hnot
        have e1 : ((old.set (st L j) 9).set (st L j + 1) ((tot L ord : Nat) : Int))[st L j + 1]? = some ((place L (ord ++ [j]) j : Nat) : Int) := (oo'.gone j hj (by simp)).2
        generalize (old.set (st L j) 9).set (st L j + 1) ((tot L ord : Nat) : Int) = old' at oo' e1 ⊢
        have hp4 : (upd (upd H2 lo (.lst (vi (old.set (st L j) 9)))) lo (.lst (vi old'))) p = some (.ins (He.ga K "Collector") dx (cf lo ln_ ld)) := by rw [upd_ne npo]; exact hp3
        refine ⟨_, rfl, p, _, dx, _, _, rfl, hp4, T.c_Collector, T.n_Collector_old, cf_old _ _ _, _, rfl, _, _, rfl, rfl, lo, _, _, _, rfl, rfl, SqL.of upd_same, vi_at (j := st L j + 1) e1, _, _, rfl, rfl, ?_⟩
        refine q _ (ord ++ [j]) (row L j) _ (.inr ⟨j, hj, ev, rfl, .inr ⟨hnot, rfl, rfl⟩⟩) ⟨(s2.upd_new l0).upd_new l0, p0, dx, lo, ln_, ld, old', l0, n0, d0, hne, hp4, upd_same, ?_, ?_, oo', ?_, ?_, ?_⟩
        · rw [upd_ne hne.symm, upd_ne hne.symm]; exact hn2
        · rw [upd_ne nod.symm]; exact hd3
        · rw [List.length_append, tot_app, tot_one, htot]; rfl
        · exact List.nodup_append.mpr ⟨nd, by simp, fun a ha b hb e => hnot (by rw [List.mem_singleton.mp hb] at e; exact e ▸ ha)⟩
        · intro i hi
          rcases List.mem_append.mp hi with h1 | h1
          · exact hlt i h1
          · rw [List.mem_singleton.mp h1]; exact hj
      · have hk' : k = 9 := by simpa using h3
        have hin : j ∈ ord := hk9.mp hk'
        refine ⟨_, rfl, p, _, dx, _, _, rfl, hp, T.c_Collector, T.n_Collector_old, cf_old _ _ _, _, rfl, _, _, rfl, rfl, lo, _, _, _, rfl, rfl, SqL.of ho, vi_at (j := st L j + 1) (oo.gone j hj hin).2, _, _, rfl, rfl, ?_⟩
        refine q _ ord [] _ (.inr ⟨j, hj, ev, rfl, .inl ⟨hin, rfl, rfl⟩⟩) ?_
        rw [List.append_nil]; exact hC
end
end K63

set_option Elab.async false
set_option linter.all false
set_option maxRecDepth 100000
set_option maxHeartbeats 4000000
namespace K63
open PySem PySem.Spec PyProof.Rows L2
def spInit (K : PySem.W.Frag) (C : Addr) : Sp := fun vs H Q _ => ∃ (H0 : Hp) (p dx a : Addr) (L : Rows), vs = [.ref p, .ref a] ∧ Wf L ∧ SqT K H a (vi L.flatten) ∧ Same H0 H ∧ H0 p = none ∧ H p = some (.ins C dx []) ∧ ∀ H', Same H0 H' → Cst C H0 H' p L [] [] → Q .non H'
def spRun (C : Addr) : Sp := fun vs H Q _ => ∃ (H0 : Hp) (p : Addr) (L : Rows) (roots : List Int) (ord : List Nat), vs = [.ref p] ∧ Wf L ∧ Cst C H0 H p L ord (ord.map (row L)).flatten ∧ Ordr L roots ord ∧
  ∀ H' O more, Al (TRow L (ord ++ more)) (ord ++ more) O → Ordr L roots (ord ++ more) → Cst C H0 H' p L (ord ++ more) O.flatten → Q .non H'
section
variable {P : Program} {w : World} {K : PySem.W.Frag} {mg : Str → Option Value} {base : Heap} (T : Txt K mg)
include T
theorem ok_init : FnOk P w K mg base CX0 1 (He.ma K (He.ga K "Collector") "__init__") T.d_Collector___init__ ["self", "memory"] (spInit K (He.ga K "Collector")) := by
  refine T.F_Collector___init__.ok sc_Collector___init__ (fun vs H Q E h => ?_) (fun cdv A outer s H vs Q E hr h => ?_)
  · obtain ⟨H0, p, dx, a, L, rfl, _⟩ := h; rfl
  · obtain ⟨H0, p, dx, a, L, rfl, w, ha, s0, p0, hp, q⟩ := h
    refine ⟨_, PSs.nox (pss_cons (ps_fld (pv 0) (pe_callTy call_list_of (by rfl) T.list (by decide +kernel) (pa_cons (pv 1) pa_nil)) rfl)
      (pss_cons (ps_fld (pv 0) (pe_lst pa_nil) rfl) (pss_one (ps_fld (pv 0) pe_dnewK rfl)))), ?_⟩
    refine ⟨_, rfl, a, _, rfl, .inr ha, fun lo hlo => ?_⟩
    have npo : p ≠ lo := ne_of_none hp hlo
    have l0 : H0 lo = none := s0.free hlo
    refine ⟨_, rfl, p, _, dx, [], rfl, (by rw [upd_ne npo]; exact hp), T.c_Collector, T.n_Collector_old, (by show 0 < 1000; decide), Nat.zero_le _, fun ln_ hln => ?_⟩
    have npn : p ≠ ln_ := fun z => by rw [← z, upd_same] at hln; cases hln
    have non : lo ≠ ln_ := fun z => by rw [← z, upd_ne npo.symm, upd_same] at hln; cases hln
    have n0 : H0 ln_ = none := by rw [upd_ne npn.symm, upd_ne non.symm] at hln; exact s0.free hln
    refine ⟨_, rfl, p, _, dx, _, rfl, (by rw [upd_ne npn, upd_same]), T.c_Collector, T.n_Collector_new, (by show 1 < 1000; decide), fun ld hld => ?_⟩
    have npd : p ≠ ld := fun z => by rw [← z, upd_same] at hld; cases hld
    have nnd : ln_ ≠ ld := fun z => by rw [← z, upd_ne npn.symm, upd_same] at hld; cases hld
    have nod : lo ≠ ld := fun z => by rw [← z, upd_ne npo.symm, upd_ne non, upd_ne npo.symm, upd_same] at hld; cases hld
    have d0 : H0 ld = none := by
      rw [upd_ne npd.symm, upd_ne nnd.symm, upd_ne npd.symm, upd_ne nod.symm] at hld; exact s0.free hld
    refine ⟨_, rfl, p, _, dx, _, rfl, (by rw [upd_ne npd, upd_same]), T.c_Collector, T.n_Collector_moved, (by show 2 < 1000; decide), ?_⟩
    have sE := (((((s0.upd_new (o := .lst (vi L.flatten)) l0).upd_new (o := .ins (He.ga K "Collector") dx (putF "old" (.ref lo) [])) p0).upd_new (o := .lst []) n0).upd_new (o := .ins (He.ga K "Collector") dx (putF "new" (.ref ln_) (putF "old" (.ref lo) []))) p0).upd_new (o := .dK []) d0).upd_new (o := .ins (He.ga K "Collector") dx (cf lo ln_ ld)) p0
    refine q _ sE ⟨sE, p0, dx, lo, ln_, ld, L.flatten, l0, n0, d0, non, upd_same, ?_, ?_, ?_, OldOk.start w, rfl, List.nodup_nil, by simp⟩
    · rw [upd_ne npo.symm, upd_ne nod, upd_ne npo.symm, upd_ne non, upd_ne npo.symm, upd_same]
    · rw [upd_ne npn.symm, upd_ne nnd, upd_ne npn.symm, upd_same]; rfl
    · rw [upd_ne npd.symm, upd_same]; rfl
def muAt : L2.St → Hp → Nat := fun σ _ => match σ[1]? with
  | some (some (V.int a)) => (100 - a).toNat
  | _ => 0
theorem ok_run : FnOk P w K mg base CX0 3 (He.ma K (He.ga K "Collector") "run") T.d_Collector_run ["self"] (spRun (He.ga K "Collector")) := by
  have G_cell_size := ok_cell_sizeL (P := P) (w := w) (base := base) T
  have G_Collector_moved_value := ok_moved (P := P) (w := w) (base := base) T
  refine T.F_Collector_run.ok sc_Collector_run (fun vs H Q E h => ?_) (fun cdv A outer s H vs Q E hr h => ?_)
  · obtain ⟨H0, p, L, roots, ord, rfl, _⟩ := h; rfl
  · obtain ⟨H0, p, L, roots, ord, rfl, w, hC, ho, q⟩ := h
    have hr1 : Room 1 _ := hr.mono (by decide)
    refine ⟨_, PSs.nox (pss_cons (ps_set (i := 1) sc_Collector_run.nd rfl (.inl rfl) pe_int)
    (pss_one (ps_while PassesOwn.never (pt_cmpR op_lt (pv 1) (pe_callB call_len_seq (by rfl) T.len (by decide +kernel) (pa_cons (pe_fld (pv 0) rfl) pa_nil)) (nomark _))
    (pss_cons (ps_for PassesOwn.never rfl (pi_range2 (by rfl) T.range (pa_cons (pe_op op_add (pv 1) (pe_gi (i := 3) rfl T.HEAD)) (pa_cons (pe_op op_add (pv 1) (pe_call G_cell_size hr1 (by rfl) T.g_cell_size T.F_cell_size.kp T.b_cell_size .nil pass0 (pa_cons (pe_fld (pv 0) rfl) (pa_cons (pv 1) pa_nil)))) pa_nil))) (pg_name (i := 2) sc_Collector_run.nd rfl (.inl rfl))
    (pss_one (ps_asg (pe_meth (pv 0) T.c_Collector T.mt_Collector_moved_value G_Collector_moved_value hr T.b_Collector_moved_value .nil pass0 (pa_cons (pe_ix ix_list (pe_fld (pv 0) rfl) (pv 2) (fun _ _ => rfl)) pa_nil)) (pg_sub (pe_fld (pv 0) rfl) (pv 2) set_list))))
    (pss_one (ps_aug (i := 1) sc_Collector_run.nd rfl (.inl rfl) (pe_call G_cell_size hr1 (by rfl) T.g_cell_size T.F_cell_size.kp T.b_cell_size .nil pass0 (pa_cons (pe_fld (pv 0) rfl) (pa_cons (pv 1) pa_nil))) ip_add)))))), ?_⟩
    refine while_by (fun σ H => ∃ (ord' : List Nat) (new : List Int) (at_ : Nat) (x : Option V), σ = [some (.ref p), some (.int (at_ : Nat)), x] ∧ Cst (He.ga K "Collector") H0 H p L ord' new ∧ Outer L roots ord ord' new at_) muAt
      ⟨ord, _, 0, none, rfl, hC, Outer.first ho⟩ ?_ ?_
    · rintro σ H ⟨ord', new, at_, x, rfl, hC, hO⟩
      obtain ⟨s0, p0, dx, lo, ln_, ld, old, l0, n0, d0, hne, hp, hol, hn, hd, oo, htot, nd, hlt⟩ := id hC
      have hsm := hO.small w htot
      refine ⟨_, rfl, _, rfl, p, _, dx, _, _, rfl, hp, T.c_Collector, T.n_Collector_new, cf_new _ _ _, ln_, _, rfl, .inl (SqL.of hn), _, _, rfl, rfl, _, rfl, ?_⟩
      rw [vi_len]
      refine ite2 (fun h1 => ?_) (fun h1 => ?_)
      · have h2 : at_ < new.length := by have := of_decide_eq_true h1; omega
        obtain ⟨c, hc, h3, hI⟩ := hO.enter w h2
        have hc3 := w.size c hc
        refine ⟨_, rfl, _, _, rfl, rfl, _, rfl, _, rfl, p, _, dx, _, _, rfl, hp, T.c_Collector, T.n_Collector_new, cf_new _ _ _, _, rfl, ln_, at_, new, _, rfl, SqL.of hn, h3, _, _, rfl, rfl, _, _, rfl, (by omega), ?_⟩
        have en : ((at_ : Int) + (3 + ((ln L c - 3 : Nat) : Int)) - ((at_ : Int) + 3)).toNat = ln L c - 3 := by omega
        refine for_range (lo := (at_ : Int) + 3) (fun t σ H => ∃ (ord2 : List Nat) (new2 : List Int) (y : Option V), σ = [some (.ref p), some (.int (at_ : Nat)), y] ∧ Cst (He.ga K "Collector") H0 H p L ord2 new2 ∧ Inner L roots ord ord2 new2 at_ c t)
          ⟨ord', new, x, rfl, hC, hI⟩ ?_ ?_
        · rintro t σ H ht ⟨ord2, new2, y, rfl, hC2, hI2⟩
          obtain ⟨s0, p0, dx, lo, ln_, ld, old, l0, n0, d0, hne, hp, hol, hn, hd, oo, htot, nd, hlt⟩ := id hC2
          have ht' : t < ln L c - 3 := by rw [← en]; exact ht
          obtain ⟨v, hv1, hv2, hv3⟩ := hI2.step w ht'
          have eix : (at_ : Int) + 3 + (t : Nat) = ((at_ + 3 + t : Nat) : Int) := by omega
          rw [eix]
          have hno : (cf lo ln_ ld).lookup ("moved_value" : Str) = none := cf_no _ _ _ (by decide +kernel) (by decide +kernel) (by decide +kernel)
          refine ⟨_, rfl, p, dx, _, rfl, hp, hno, _, rfl, p, _, dx, _, _, rfl, hp, T.c_Collector, T.n_Collector_new, cf_new _ _ _, _, rfl, ln_, _, _, _, rfl, rfl, SqL.of hn, vi_at hv1, H0, p, v, L, ord2, new2, rfl, w, hC2, hv2, fun H3 ord3 ext u hvis hC3 => ?_⟩
          obtain ⟨s0, p0, dx, lo, ln_, ld, old, l0, n0, d0, hne, hp, hol, hn, hd, oo, htot, nd, hlt⟩ := id hC3
          have hlen : at_ + 3 + t < (new2 ++ ext).length := by
            rw [List.length_append]
            have := (List.getElem?_eq_some_iff.mp hv1).1
            omega
          refine ⟨_, rfl, p, _, dx, _, _, rfl, hp, T.c_Collector, T.n_Collector_new, cf_new _ _ _, _, rfl, ln_, _, _, at_ + 3 + t, rfl, rfl, hn, ixN_nat (by rw [vi_len]; exact hlen), ?_⟩
          rw [vi_set]
          refine ⟨ord3, _, _, rfl, ?_, hv3 _ _ _ hvis⟩
          refine ⟨s0.upd_new n0, p0, dx, lo, ln_, ld, old, l0, n0, d0, hne, ?_, ?_, upd_same, ?_, oo, by rw [List.length_set]; exact htot, nd, hlt⟩
          · rw [upd_ne (ne_of hp hn (by intro z; cases z))]; exact hp
          · rw [upd_ne hne]; exact hol
          · rw [upd_ne (ne_of hd hn (by intro z; cases z))]; exact hd
        · rintro σ H ⟨ord2, new2, y, rfl, hC2, hI2⟩
          obtain ⟨s0, p0, dx, lo, ln_, ld, old, l0, n0, d0, hne, hp, hol, hn, hd, oo, htot, nd, hlt⟩ := id hC2
          replace hI2 : Inner L roots ord ord2 new2 at_ c (ln L c - 3) := by rw [← en]; exact hI2
          have h3' := (hI2.head w).2
          refine ⟨_, rfl, _, rfl, p, _, dx, _, _, rfl, hp, T.c_Collector, T.n_Collector_new, cf_new _ _ _, _, rfl, ln_, at_, new2, _, rfl, SqL.of hn, h3', _, _, rfl, rfl, ?_⟩
          have eat : (at_ : Int) + (3 + ((ln L c - 3 : Nat) : Int)) = ((at_ + ln L c : Nat) : Int) := by omega
          dsimp only
          rw [eat]
          refine ⟨⟨ord2, new2, at_ + ln L c, y, rfl, hC2, hI2.leave w⟩, ?_⟩
          show (100 - ((at_ + ln L c : Nat) : Int)).toNat < (100 - ((at_ : Nat) : Int)).toNat
          omega
      · have h2 : ¬ at_ < new.length := fun z => h1 (decide_eq_true (by omega))
        obtain ⟨O, more, e1, e2, ha, ho'⟩ := hO.done w h2
        subst e1 e2
        exact q _ O more ha ho' hC
    · rintro σ H Q Q' hm ⟨x, hx, y, hy, p, C, dx, fs, v, e1, e2, e3, e4, e5, l, ys, e6, e7, i, j, e8, e9, k, e10, q⟩
      exact ⟨x, hx, y, hy, p, C, dx, fs, v, e1, e2, e3, e4, e5, l, ys, e6, e7, i, j, e8, e9, k, e10, hm _ _ q⟩
end
end K63

set_option Elab.async false
set_option linter.all false
set_option maxRecDepth 100000
set_option maxHeartbeats 4000000
namespace K63
open PySem PySem.Spec PyProof.Rows L2
/-! comprehensions over ints -/
def LcP (H1 : Hp) (D : Addr) (xs : List Int) (f : Int → Option Int) (i : Nat) (H : Hp) : Prop := Same H1 H ∧ H D = some (.lst (vi ((xs.take i).filterMap f)))
theorem LcP.zero {H1 : Hp} {D : Addr} {xs : List Int} {f : Int → Option Int} (hD : H1 D = none) : LcP H1 D xs f 0 (upd H1 D (.lst [])) :=
  ⟨fun b o e => by rw [upd_ne (ne_of_none e hD)]; exact e, upd_same⟩
theorem LcP.yes {H1 H H4 : Hp} {D : Addr} {xs : List Int} {f : Int → Option Int} {i : Nat} {x v : Int} (h : LcP H1 D xs f i H) (hx : xs[i]? = some x) (s : Same H H4) (e : f x = some v) (hD : H1 D = none) (hl : xs.length ≤ 1000) :
    ∃ acc, H4 D = some (.lst acc) ∧ acc.length < sizeLine ∧ LcP H1 D xs f (i + 1) (upd H4 D (.lst (acc ++ [.int v]))) := by
  refine ⟨_, s _ _ h.2, small1000 ?_, (h.1.trans s).upd_new hD, ?_⟩
  · rw [vi_len]
    have := List.length_filterMap_le f (xs.take i)
    rw [List.length_take] at this; omega
  · rw [upd_same, List.take_succ, hx, List.filterMap_append]
    unfold vi
    rw [List.map_append]
    simp [e]
theorem LcP.no {H1 H H3 : Hp} {D : Addr} {xs : List Int} {f : Int → Option Int} {i : Nat} {x : Int} (h : LcP H1 D xs f i H) (hx : xs[i]? = some x) (s : Same H H3) (e : f x = none) : LcP H1 D xs f (i + 1) H3 := by
  refine ⟨h.1.trans s, ?_⟩
  rw [s _ _ h.2, List.take_succ, hx, List.filterMap_append]
  simp [e]
theorem vi_of {xs : List Int} {i : Nat} {x : V} (h : (vi xs)[i]? = some x) : ∃ v, x = .int v ∧ xs[i]? = some v ∧ v ∈ xs := by
  unfold vi at h
  rw [List.getElem?_map] at h
  cases e : xs[i]? with
  | none => rw [e] at h; cases h
  | some v => rw [e] at h; exact ⟨v, (Option.some.inj h).symm, rfl, List.mem_of_getElem? e⟩
theorem LcP.all {H1 H : Hp} {D : Addr} {xs : List Int} {f : Int → Option Int} (h : LcP H1 D xs f (vi xs).length H) : Same H1 H ∧ H D = some (.lst (vi (xs.filterMap f))) := by
  obtain ⟨a, b⟩ := h
  rw [vi_len, List.take_length] at b
  exact ⟨a, b⟩
/-! the collector's heap, other objects beside it -/
theorem Cst.re {C : Addr} {H0 H : Hp} {p D : Addr} {L : Rows} {ord : List Nat} {new : List Int} {o o' : HO} (h : Cst C (upd H0 D o) H p L ord new) : Cst C (upd H0 D o') (upd H D o') p L ord new := by
  obtain ⟨s0, p0, dx, lo, ln_, ld, old, l0, n0, d0, hne, hp, hol, hn, hd, oo, htot, nd, hlt⟩ := h
  have ne : ∀ {x : Addr}, upd H0 D o x = none → x ≠ D := fun hx z => by rw [z, upd_same] at hx; cases hx
  have nn : ∀ {x : Addr}, upd H0 D o x = none → upd H0 D o' x = none := fun hx => by
    have n := ne hx
    rw [upd_ne n] at hx ⊢; exact hx
  refine ⟨fun b u e => ?_, nn p0, dx, lo, ln_, ld, old, nn l0, nn n0, nn d0, hne, by rw [upd_ne (ne p0)]; exact hp, by rw [upd_ne (ne l0)]; exact hol, by rw [upd_ne (ne n0)]; exact hn, by rw [upd_ne (ne d0)]; exact hd, oo, htot, nd, hlt⟩
  by_cases z : b = D
  · subst z; rw [upd_same] at e ⊢; exact e
  · rw [upd_ne z] at e ⊢; exact s0 b u (by rw [upd_ne z]; exact e)
theorem Cst.add {C : Addr} {H0 H : Hp} {p D : Addr} {L : Rows} {ord : List Nat} {new : List Int} {o : HO} (h : Cst C H0 H p L ord new) (hD : H D = none) : Cst C (upd H0 D o) (upd H D o) p L ord new := by
  obtain ⟨s0, p0, dx, lo, ln_, ld, old, l0, n0, d0, hne, hp, hol, hn, hd, oo, htot, nd, hlt⟩ := h
  have n1 := ne_of_none hp hD
  have n2 := ne_of_none hol hD
  have n3 := ne_of_none hn hD
  have n4 := ne_of_none hd hD
  refine ⟨fun b u e => ?_, by rw [upd_ne n1]; exact p0, dx, lo, ln_, ld, old, by rw [upd_ne n2]; exact l0, by rw [upd_ne n3]; exact n0, by rw [upd_ne n4]; exact d0, hne, by rw [upd_ne n1]; exact hp, by rw [upd_ne n2]; exact hol, by rw [upd_ne n3]; exact hn, by rw [upd_ne n4]; exact hd, oo, htot, nd, hlt⟩
  by_cases z : b = D
  · subst z; rw [upd_same] at e ⊢; exact e
  · rw [upd_ne z] at e ⊢; exact s0 b u e
theorem _root_.L2.TupF.same {H H' : Hp} {a : Addr} {xs : List V} (h : TupF H a xs) (s : Same H H') : TupF H' a xs := let ⟨o, e, d⟩ := h; ⟨o, s _ _ e, d⟩
def Paper (K : PySem.W.Frag) (L : Rows) (H : Hp) (pa : Addr) (pp : List (Nat × Nat)) : Prop :=
  ∃ zs : List (Addr × (Nat × Nat)), pp = zs.map (·.2) ∧ TupF H pa (zs.map fun z => V.ref z.1) ∧ ∀ z ∈ zs, SqT K H z.1 [.int ((st L z.2.1 : Nat) : Int), .int ((z.2.2 : Nat) : Int)]
def spColl (K : PySem.W.Frag) : Sp := fun vs H Q _ => ∃ (a b : Addr) (L : Rows) (roots : List Int), vs = [.ref a, .ref b] ∧ Wf L ∧ SqT K H a (vi L.flatten) ∧ SqT K H b (vi roots) ∧ (∀ v ∈ roots, VOk L v) ∧ roots.length ≤ 4 ∧
  ∀ (H' : Hp) (t o bh pa : Addr) (ord : List Nat) (O : Rows) (bhv : List Int) (pp : List (Nat × Nat)), Same H H' → H' t = some (.tup [.ref o, .ref bh, .ref pa]) → TupF H' o (vi O.flatten) → TupF H' bh (vi bhv) → Paper K L H' pa pp →
    Coll L roots ord O bhv → pp.Perm (pp0 L ord) → (pp.map fun e => ((st L e.1 : Nat) : Int)).Pairwise (· < ·) → Q (.ref t) H'
section
variable {P : Program} {w : World} {K : PySem.W.Frag} {mg : Str → Option Value} {base : Heap} (T : Txt K mg)
include T
theorem ok_collected : FnOk P w K mg base CX0 4 (He.ga K "collected") T.d_collected ["memory", "roots"] (spColl K) := by
  have G_Collector := ok_init (P := P) (w := w) (base := base) T
  have G_Collector_moved_value := ok_moved (P := P) (w := w) (base := base) T
  have G_Collector_run := ok_run (P := P) (w := w) (base := base) T
  refine T.F_collected.ok sc_collected (fun vs H Q E h => ?_) (fun cdv A outer s H vs Q E hr h => ?_)
  · obtain ⟨a, b, L, roots, rfl, _⟩ := h; rfl
  · obtain ⟨a, b, L, roots, rfl, w, ha, hb, hro, hfew, q⟩ := h
    have hr2 : Room 2 _ := hr.mono (by decide)
    refine ⟨_, PSs.nox (pss_cons (ps_set (i := 2) sc_collected.nd rfl (.inr rfl) (pe_make T.m_Collector G_Collector hr2 (by rfl) T.g_Collector T.b_Collector___init__ .nil pass0 (pa_cons (pv 0) pa_nil)))
    (pss_cons (ps_set (i := 3) sc_collected.nd rfl (.inl rfl) (pe_callTy call_tupleF (by rfl) T.tuple (by decide +kernel) (pa_cons (pe_lc (own := [("value", 4)]) (g := gName 4) (tt := tYes) (by rfl) sc_collected.nd (pi_tup (pv 1)) (blkOk_by (own := [("value", 4)]) (N := ["memory", "roots", "collector", "behind", "value"]) (sc := defScope s_collected) (by decide +kernel)) (fun _ _ _ _ _ => (pg_name (i := 4) sc_collected.nd rfl (.inl rfl))) (fun _ _ _ _ _ => pts_nil) (fun _ _ _ _ _ => (pe_meth (pv 2) T.c_Collector T.mt_Collector_moved_value G_Collector_moved_value hr2 T.b_Collector_moved_value .nil pass0 (pa_cons (pv 4) pa_nil)))) pa_nil)))
    (pss_cons (ps_expr (pe_meth0 (pv 2) T.c_Collector T.mt_Collector_run G_Collector_run hr T.b_Collector_run .nil pass0))
    (pss_one (ps_ret (pe_tup (pa_cons (pe_callTy call_tupleF (by rfl) T.tuple (by decide +kernel) (pa_cons (pe_fld (pv 2) rfl) pa_nil)) (pa_cons (pv 3) (pa_cons (pe_callTy call_tupleF (by rfl) T.tuple (by decide +kernel) (pa_cons (pe_callB (cr_sortedItemsI rfl) (by rfl) T.sorted (by decide +kernel) (pa_cons (pe_bm0 PySem.F.plainAttrs_dict PySem.F.slot_dict_items PySem.F.type_dict_items mt_itemsK (pe_fld (pv 2) rfl)) pa_nil)) pa_nil)) pa_nil))))))))), ?_⟩
    refine ⟨_, rfl, fun x dx nx ndx nex => ?_⟩
    have s0 : Same H (upd (upd H dx (.own x)) x (.ins (He.ga K "Collector") dx [])) := fun b o e => by
      rw [upd_ne (ne_of_none e nx), upd_ne (ne_of_none e ndx)]; exact e
    refine ⟨H, x, dx, a, L, rfl, w, s0.sqt ha, s0, nx, upd_same, fun H1 s1 hC1 => ⟨rfl, ?_⟩⟩
    refine ⟨_, rfl, b, rfl, ⟨_, s1.sqt hb⟩, fun D hD => ?_⟩
    refine lc_tup (xs := vi roots) (fun i H' => ∃ (ord : List Nat) (ws : List Int), ws.length = i ∧ Cst (He.ga K "Collector") (upd H D (.lst (vi ws))) H' x L ord (ord.map (row L)).flatten ∧ Ordr L roots ord ∧ Al (Tr L ord) (roots.take i) ws)
      ⟨[], [], rfl, hC1.add hD, ⟨List.nodup_nil, by simp⟩, by simp; exact .nil⟩ (fun i H' _ ⟨ord, ws, _, hC, _, _⟩ => ?_) ?_ ?_
    · have hD0 : H D = none := s1.free hD
      refine L2.Same.sqt (H := H) (fun b o e => hC.1 b o ?_) hb
      rw [upd_ne (ne_of_none e hD0)]; exact e
    · rintro i y H' hi ⟨ord, ws, hwl, hC, ho, ha'⟩
      obtain ⟨v, rfl, hv, hm⟩ := vi_of hi
      obtain ⟨s0', p0, dx', lo, ln_, ld, old, l0, n0, d0, hne, hp, hol, hn, hd, oo, htot, nd, hlt⟩ := id hC
      have hno : (cf lo ln_ ld).lookup ("moved_value" : Str) = none := cf_no _ _ _ (by decide +kernel) (by decide +kernel) (by decide +kernel)
      refine ⟨rfl, _, rfl, x, dx', _, rfl, hp, hno, _, rfl, _, x, v, L, ord, _, rfl, w, hC, hro v hm, fun H3 ord3 ext u hvis hC3 => ?_⟩
      obtain ⟨mo, e1, e2, e3, e4⟩ := hvis.pre
      have ilt : i < roots.length := (List.getElem?_eq_some_iff.mp hv).1
      have hD3 : H3 D = some (.lst (vi ws)) := hC3.1 D _ upd_same
      refine ⟨_, hD3, small1000 (by rw [vi_len]; omega), ord3, ws ++ [u], by simp [hwl], ?_, ho.visit hvis fun j hj ev => .root hj (by rw [← ev]; exact hm), ?_⟩
      · have ec : vi ws ++ [V.int u] = vi (ws ++ [u]) := by unfold vi; rw [List.map_append]; rfl
        have en : (ord.map (row L)).flatten ++ ext = (ord3.map (row L)).flatten := by rw [e1, e2]; simp
        rw [ec, ← en]
        exact hC3.re
      · rw [List.take_succ, hv]
        refine Al.snoc ?_ hvis.tr
        rw [e1]; exact ha'.mono fun _ _ z => z.app
    · rintro H2 ⟨ord, ws, hwl, hC2, ho, hal⟩
      rw [vi_len, List.take_length] at hal
      refine ⟨D, _, rfl, SqL.of (hC2.1 D _ upd_same), fun tb ob htb hob => ?_⟩
      have hC3 := hC2.add (o := .frz ob (.tup (vi ws))) htb
      obtain ⟨s0', p0, dx', lo, ln_, ld, old, l0, n0, d0, hne, hp, hol, hn, hd, oo, htot, nd, hlt⟩ := id hC3
      have hno : (cf lo ln_ ld).lookup ("run" : Str) = none := cf_no _ _ _ (by decide +kernel) (by decide +kernel) (by decide +kernel)
      refine ⟨_, rfl, x, dx', _, rfl, hp, hno, _, x, L, roots, ord, rfl, w, hC3, ho, fun H4 O more hO ho4 hC4 => ?_⟩
      obtain ⟨s4, p04, dx4, lo4, ln4, ld4, old4, l04, n04, d04, hne4, hp4, hol4, hn4, hd4, oo4, htot4, nd4, hlt4⟩ := id hC4
      have hD0 : H D = none := s1.free hD
      have htb0 : upd H D (.lst (vi ws)) tb = none := hC2.1.free htb
      have ntbD : tb ≠ D := fun z => by rw [z, upd_same] at htb0; cases htb0
      have htb00 : H tb = none := by rw [upd_ne ntbD] at htb0; exact htb0
      have sH4 : Same H H4 := fun b o e => s4 b o (by rw [upd_ne (ne_of_none e htb00), upd_ne (ne_of_none e hD0)]; exact e)
      have tb4 : TupF H4 tb (vi ws) := ⟨ob, s4 _ _ upd_same, hob⟩
      refine ⟨_, rfl, x, _, dx4, _, _, rfl, hp4, T.c_Collector, T.n_Collector_new, cf_new _ _ _, ln4, _, rfl, SqL.of hn4, fun to oo' hto hoo => ?_⟩
      have s5 : Same H4 (upd H4 to (.frz oo' (.tup (vi O.flatten)))) := fun b o e => by rw [upd_ne (ne_of_none e hto)]; exact e
      have hp5 := s5 _ _ hp4
      have hd5 := s5 _ _ hd4
      have o5 : TupF (upd H4 to (.frz oo' (.tup (vi O.flatten)))) to (vi O.flatten) := ⟨oo', upd_same, hoo⟩
      refine ⟨_, rfl, _, rfl, x, _, dx4, _, _, rfl, hp5, T.c_Collector, T.n_Collector_moved, cf_moved _ _ _, .inr (.inr (.inl ⟨rfl, .inl ⟨_, hd5⟩⟩)), ?_⟩
      refine ⟨ld4, _, rfl, rfl, hd5, fun vw hvw => ?_⟩
      have s6 : Same (upd H4 to (.frz oo' (.tup (vi O.flatten)))) (upd (upd H4 to (.frz oo' (.tup (vi O.flatten)))) vw (L2.DX.itemsO vw ld4)) := fun b o e => by rw [upd_ne (ne_of_none e hvw)]; exact e
      refine ⟨vw, ld4, mvs L (ord ++ more), rfl, upd_same, s6 _ _ hd5, fun H7 l ts s7 hperm hsort hl0 hl7 hts => ?_⟩
      have s47 : Same H4 H7 := (s5.trans s6).trans s7
      refine ⟨l, _, rfl, SqL.of hl7, fun tp op htp hop => ?_⟩
      have s8 : Same H7 (upd H7 tp (.frz op (.tup (ts.map fun z => V.ref z.1)))) := fun b o e => by rw [upd_ne (ne_of_none e htp)]; exact e
      refine ⟨by show 3 ≤ sizeLine; decide, fun t ht => ?_⟩
      have s9 : Same (upd H7 tp (.frz op (.tup (ts.map fun z => V.ref z.1)))) (upd (upd H7 tp (.frz op (.tup (ts.map fun z => V.ref z.1)))) t (.tup [.ref to, .ref tb, .ref tp])) := fun b o e => by rw [upd_ne (ne_of_none e ht)]; exact e
      have s79 := s8.trans s9
      have s49 := s47.trans s79
      have cc : Coll L roots (ord ++ more) O ws := ⟨ho4, hO, hal.mono fun _ _ z => z.app⟩
      obtain ⟨zs, pz, ez⟩ := perm_lift (fun e : Nat × Nat => (((st L e.1 : Nat) : Int), ((e.2 : Nat) : Int))) hperm (pp0 L (ord ++ more)) (by rw [mvs_ip]; rfl)
      have hzl : zs.length = ts.length := by
        have e := congrArg List.length ez
        rwa [List.length_map, List.length_map] at e
      refine q _ t to tb tp (ord ++ more) O ws zs (sH4.trans s49) upd_same (o5.same ((s6.trans s7).trans s79)) (tb4.same s49) ⟨(ts.map (·.1)).zip zs, ?_, ?_, ?_⟩ cc pz ?_
      · rw [List.map_snd_zip]; rw [List.length_map]; omega
      · refine ⟨op, s9 _ _ ?_, hop⟩
        have e : ((ts.map (·.1)).zip zs).map (fun z => V.ref z.1) = ts.map fun z => V.ref z.1 := by
          have e1 : ((ts.map (·.1)).zip zs).map (·.1) = ts.map (·.1) := List.map_fst_zip (by rw [List.length_map]; omega)
          rw [show (fun z : Addr × (Nat × Nat) => V.ref z.1) = V.ref ∘ Prod.fst from rfl, ← List.map_map, e1, List.map_map]; rfl
        rw [e]; exact upd_same
      · intro z hz
        obtain ⟨n, hn⟩ := List.mem_iff_getElem?.mp hz
        obtain ⟨h1, h2⟩ := List.getElem?_zip_eq_some.mp hn
        rw [List.getElem?_map] at h1
        cases e : ts[n]? with
        | none => rw [e] at h1; cases h1
        | some u =>
          rw [e] at h1
          have e1 : u.1 = z.1 := Option.some.inj h1
          have e2 := congrArg (fun l => l[n]?) ez
          simp only [List.getElem?_map, h2, e] at e2
          have e3 := Option.some.inj e2
          have hu := (hts u (List.mem_of_getElem? e)).2
          rw [e1] at hu
          refine SqT.of (s79 _ _ ?_)
          have e3' : u.2 = (((st L z.2.1 : Nat) : Int), ((z.2.2 : Nat) : Int)) := e3.symm
          rw [hu, e3']
      · have hs : (ts.map (·.2)).Pairwise (fun e f => e.1 ≤ f.1) := List.Pairwise.imp (fun {e f} h => by
          have h' := SrtO.lexB_no.mp h
          omega) hsort
        rw [← ez, List.pairwise_map] at hs
        have h1 : (zs.map fun e => ((st L e.1 : Nat) : Int)).Pairwise (· ≤ ·) := by rw [List.pairwise_map]; exact hs
        refine sorted_strict h1 ?_
        have hnd := Coll.nd w cc pz
        rw [List.nodup_iff_pairwise_ne, List.pairwise_map] at hnd ⊢
        refine List.Pairwise.imp_of_mem (fun {e f} he hf hne z => hne ?_) hnd
        exact st_inj w (Coll.rcs w cc pz e he).lt (Coll.rcs w cc pz f hf).lt (by omega)
end
end K63

set_option Elab.async false
set_option linter.all false
set_option maxRecDepth 100000
set_option maxHeartbeats 4000000
namespace K63
open PySem PySem.Spec PyProof.Rows L2
def spReach (K : PySem.W.Frag) : Sp := fun vs H Q _ => ∃ (a b : Addr) (L : Rows) (roots : List Int), vs = [.ref a, .ref b] ∧ Wf L ∧ SqT K H a (vi L.flatten) ∧ SqT K H b (vi roots) ∧ (∀ v ∈ roots, VOk L v) ∧ roots.length ≤ 4 ∧
  ∀ H' q ys, Same H H' → Rch L roots ys → H' q = some (.lst (vi ys)) → Q (.ref q) H'
theorem vi_last {xs : List Int} {x : Int} : (vi (xs ++ [x]))[(vi (xs ++ [x])).length - 1]? = some (V.int x) := by
  unfold vi; simp
theorem vi_drop {xs : List Int} {x : Int} : (vi (xs ++ [x])).dropLast = vi xs := by unfold vi; simp
theorem snoc_of {α : Type} {xs : List α} (h : 0 < xs.length) : ∃ ys y, xs = ys ++ [y] := by
  refine ⟨xs.dropLast, xs.getLast (by intro z; rw [z] at h; simp at h), (List.dropLast_concat_getLast _).symm⟩
abbrev pl (L : Rows) (js : List Nat) : List Int := js.map fun j => ((st L j : Nat) : Int)
theorem vi_in {xs : List Int} {x : Int} : inV (V.int x) (vi xs) = decide (x ∈ xs) := by
  unfold inV vi
  induction xs with
  | nil => rfl
  | cons y t ih =>
    rw [List.map_cons, List.any_cons, ih]
    by_cases h : y = x
    · subst h; simp [eqV]
    · have h' : ¬ x = y := fun z => h z.symm
      simp [eqV, h, h']
theorem pl_in {L : Rows} (w : Wf L) {js : List Nat} (h : ∀ j ∈ js, j < L.length) {c : Nat} (hc : c < L.length) : ((st L c : Nat) : Int) ∈ pl L js ↔ c ∈ js := by
  unfold pl
  rw [List.mem_map]
  constructor
  · rintro ⟨j, hj, e⟩
    rw [← st_inj w (h j hj) hc (by omega)]; exact hj
  · intro hj; exact ⟨c, hj, rfl⟩
theorem whole_no {xs : List Int} {a d : Nat} (h : 0 < xs.length) (z : HT.sIx (vi xs).length d (some ((a : Int) + 3)) = 0) : False := by
  have e : HT.sIx (vi xs).length d (some (((a + 3 : Nat)) : Int)) = 0 := z
  rw [HT.sIx_nat, vi_len] at e
  omega
theorem part_cut {xs : List Int} {a n : Nat} (h : a + 3 + n ≤ xs.length) : cutV (vi xs) (some ((a : Int) + 3)) (some ((a : Int) + 3 + (n : Int))) = vi ((xs.drop (a + 3)).take n) := by
  have e := vi_cut (xs := xs) (a := a + 3) (b := a + 3 + n) (by omega) h
  rw [show a + 3 + n - (a + 3) = n by omega] at e
  exact e
theorem part_cut3 {xs : List Int} {a n : Nat} (h : a + 3 + n ≤ xs.length) : cutV (vi xs) (some ((a : Int) + 3)) (some ((a : Int) + (3 + (n : Int)))) = vi ((xs.drop (a + 3)).take n) := by
  rw [← Int.add_assoc]; exact part_cut h
section
variable {P : Program} {w : World} {K : PySem.W.Frag} {mg : Str → Option Value} {base : Heap} (T : Txt K mg)
include T
theorem ok_starts : FnOk P w K mg base CX0 2 (He.ga K "starts_in") T.d_starts_in ["memory"] (spStarts K) := by
  have G_cell_size := ok_cell_sizeT (P := P) (w := w) (base := base) T
  refine T.F_starts_in.ok sc_starts_in (fun vs H Q E h => ?_) (fun cdv A outer s H vs Q E hr h => ?_)
  · obtain ⟨a, O, rfl, _⟩ := h; rfl
  · obtain ⟨a, O, rfl, w, ha, q⟩ := h
    refine ⟨_, PSs.nox (pss_cons (ps_set (i := 1) sc_starts_in.nd rfl (.inl rfl) (pe_lst pa_nil))
    (pss_cons (ps_set (i := 2) sc_starts_in.nd rfl (.inl rfl) pe_int)
    (pss_cons (ps_while PassesOwn.never (pt_cmpR op_lt (pv 2) (pe_callB call_len_seq (by rfl) T.len (by decide +kernel) (pa_cons (pv 0) pa_nil)) (nomark _))
    (pss_cons (ps_expr (pe_bm PySem.F.plainAttrs_list PySem.F.slot_list_append PySem.F.type_list_append mt_append (pv 1) (pa_cons (pv 2) pa_nil)))
    (pss_one (ps_aug (i := 2) sc_starts_in.nd rfl (.inl rfl) (pe_call G_cell_size hr (by rfl) T.g_cell_size T.F_cell_size.kp T.b_cell_size .nil pass0 (pa_cons (pv 0) (pa_cons (pv 2) pa_nil))) ip_add))))
    (pss_one (ps_ret (pv 1)))))), ?_⟩
    refine ⟨Nat.zero_le _, fun l hl => ?_⟩
    have hf := flat_small w
    refine while_by (fun σ H' => ∃ k, k ≤ O.length ∧ σ = [some (.ref a), some (.ref l), some (.int ((st O k : Nat) : Int))] ∧ Same H H' ∧ H' l = some (.lst (vi (pl O (List.range k)))))
      (fun σ _ => match σ[2]? with
        | some (some (V.int a)) => (100 - a).toNat
        | _ => 0) ⟨0, Nat.zero_le _, rfl, fun b o e => by rw [upd_ne (ne_of_none e hl)]; exact e, upd_same⟩ ?_ ?_
    · rintro σ H1 ⟨k, hk, rfl, s1, hl1⟩
      refine ⟨_, rfl, _, rfl, a, _, rfl, .inr (s1.sqt ha), _, _, rfl, rfl, _, rfl, ?_⟩
      rw [vi_len]
      refine ite2 (fun h1 => ?_) (fun h1 => ?_)
      · have h2 : st O k < O.flatten.length := by have := of_decide_eq_true h1; omega
        have hk2 : k < O.length := by
          rcases Nat.lt_or_ge k O.length with h | h
          · exact h
          · rw [show k = O.length by omega, st_full] at h2; omega
        have h3 := w.size k hk2
        have s2 : Same H (upd H1 l (.lst (vi (pl O (List.range k)) ++ [V.int ((st O k : Nat) : Int)]))) := s1.upd_new hl
        refine ⟨_, rfl, .inl ⟨rfl, _, SqL.of hl1⟩, _, rfl, l, _, _, rfl, rfl, hl1, small1000 (by rw [vi_len, List.length_map, List.length_range]; have := w.many; omega), ?_⟩
        refine ⟨_, rfl, _, rfl, _, rfl, a, st O k, _, _, rfl, s2.sqt ha, flat_third w hk2, _, _, rfl, rfl, ?_⟩
        have eat : ((st O k : Nat) : Int) + (3 + ((ln O k - 3 : Nat) : Int)) = ((st O (k + 1) : Nat) : Int) := by rw [st_succ hk2]; omega
        dsimp only
        rw [eat]
        refine ⟨⟨k + 1, hk2, rfl, s2, ?_⟩, ?_⟩
        · rw [upd_same]
          unfold vi pl
          rw [List.range_succ, List.map_append, List.map_append]; rfl
        · show (100 - ((st O (k + 1) : Nat) : Int)).toNat < (100 - ((st O k : Nat) : Int)).toNat
          rw [st_succ hk2]; omega
      · have h2 : ¬ st O k < O.flatten.length := fun z => h1 (decide_eq_true (by omega))
        have hk2 : k = O.length := by
          rcases Nat.lt_or_ge k O.length with h | h
          · exfalso
            have := st_lt w h (Nat.le_refl _)
            rw [st_full] at this; omega
          · omega
        subst hk2
        exact ⟨_, rfl, q _ _ s1 hl hl1⟩
    · rintro σ H Q Q' hm ⟨x, hx, y, hy, l, ys, e6, e7, i, j, e8, e9, k, e10, q⟩
      exact ⟨x, hx, y, hy, l, ys, e6, e7, i, j, e8, e9, k, e10, hm _ _ q⟩
theorem ok_law_reach : FnOk P w K mg base CX0 1 (He.ga K "_law_reach") T.d__law_reach ["memory", "roots"] (spReach K) := by
  refine T.F__law_reach.ok sc_law_reach (fun vs H Q E h => ?_) (fun cdv A outer s H vs Q E hr h => ?_)
  · obtain ⟨a, b, L, roots, rfl, _⟩ := h; rfl
  · obtain ⟨a, b, L, roots, rfl, w, ha, hb, hro, hfew, q⟩ := h
    refine ⟨_, PSs.nox (pss_cons (ps_set (i := 2) sc_law_reach.nd rfl (.inl rfl) (pe_lst pa_nil))
    (pss_cons (ps_setLc (i := 3) (own := [("value", 6)]) (g := gName 6) (by rfl) sc_law_reach.nd rfl rfl (sw_true rfl rfl rfl (by decide +kernel)) (pi_tup (pv 1)) (blkOk_by (own := [("value", 6)]) (N := ["memory", "roots", "found", "waiting", "k", "at", "value"]) (sc := defScope s_law_reach) (by decide +kernel)) (fun _ _ _ _ _ => (pg_name (i := 6) sc_law_reach.nd rfl (.inl rfl))) (fun _ _ _ _ _ => pts_one (pt_cmpR op_ge (pv 6) pe_int (nomark _))) (fun _ _ _ _ _ => (pe_op op_sub (pv 6) pe_int)))
    (pss_cons (ps_for PassesOwn.never rfl (pi_range1 (by rfl) T.range (pa_cons pe_int pa_nil)) (pg_name (i := 4) sc_law_reach.nd rfl (.inl rfl))
    (pss_one (ps_if (pt_cmpR op_gt (pe_callB call_len_seq (by rfl) T.len (by decide +kernel) (pa_cons (pv 3) pa_nil)) pe_int (nomark _))
    (pss_cons (ps_set (i := 5) sc_law_reach.nd rfl (.inl rfl) (pe_bm0 PySem.F.plainAttrs_list PySem.F.slot_list_pop PySem.F.type_list_pop mt_pop (pv 3)))
    (pss_one (ps_if (pt_cmpR op_notIn_seq (pv 5) (pv 2) (by rfl))
    (pss_cons (ps_expr (pe_bm PySem.F.plainAttrs_list PySem.F.slot_list_append PySem.F.type_list_append mt_append (pv 2) (pa_cons (pv 5) pa_nil)))
    (pss_one (ps_set (i := 3) sc_law_reach.nd rfl (.inl rfl) (pe_op op_cat (pv 3) (pe_lc (own := [("value", 6)]) (g := gName 6) (by rfl) sc_law_reach.nd (pi_tup (pe_slice sl_tupF (pv 0) (po_some (pe_op op_add (pv 5) pe_int)) (po_some (pe_op op_add (pe_op op_add (pv 5) pe_int) (pe_ix ix_tup (pv 0) (pe_op op_add (pv 5) pe_int) (fun _ _ => rfl)))))) (blkOk_by (own := [("value", 6)]) (N := ["memory", "roots", "found", "waiting", "k", "at", "value"]) (sc := defScope s_law_reach) (by decide +kernel)) (fun _ _ _ _ _ => (pg_name (i := 6) sc_law_reach.nd rfl (.inl rfl))) (fun _ _ _ _ _ => pts_one (pt_cmpR op_ge (pv 6) pe_int (nomark _))) (fun _ _ _ _ _ => (pe_op op_sub (pv 6) pe_int)))))))
    pss_nil)))
    pss_nil)))
    (pss_one (ps_ret (pe_callB cr_sortedI (by rfl) T.sorted (by decide +kernel) (pa_cons (pv 2) pa_nil))))))), ?_⟩
    refine ⟨Nat.zero_le _, fun fa hfa => ?_⟩
    have s1 : Same H (upd H fa (.lst [])) := (Same.refl H).upd_new hfa
    refine ⟨_, rfl, b, rfl, ⟨_, s1.sqt hb⟩, fun D hD => ?_⟩
    refine lc_tup (xs := vi roots) (LcP (upd H fa (.lst [])) D roots refF) (LcP.zero hD) (fun i H' _ h => (s1.trans h.1).sqt hb) ?_ ?_
    · rintro i y H' hi hP
      obtain ⟨v, rfl, hv, hm⟩ := vi_of hi
      refine ⟨rfl, _, rfl, _, _, rfl, rfl, _, rfl, ite2 (fun h1 => ?_) (fun h1 => ?_)⟩
      · have h2 : v ≥ 10000 := of_decide_eq_true h1
        exact ⟨_, rfl, _, _, rfl, rfl, hP.yes hv (Same.refl _) (by unfold refF; rw [if_pos h2]) hD (by omega)⟩
      · have h2 : ¬ v ≥ 10000 := fun z => h1 (decide_eq_true z)
        exact hP.no hv (Same.refl _) (by unfold refF; rw [if_neg h2])
    · rintro H2 hP
      obtain ⟨s2, hD2⟩ := hP.all
      obtain ⟨js, hjs, hjl⟩ := refs_to w hro
      rw [hjs.1] at hD2
      refine ⟨400, rfl, by decide, by decide, ?_⟩
      refine for_range (lo := 0) (n := 400) (fun i σ H' => ∃ (fd wt : List Nat) (wa : Addr) (x y : Option V), σ = [some (.ref a), some (.ref b), some (.ref fa), some (.ref wa), x, y, none] ∧ Same H H' ∧ H wa = none ∧ fa ≠ wa ∧ H' fa = some (.lst (vi (pl L fd))) ∧ H' wa = some (.lst (vi (pl L wt))) ∧ Dfs L roots fd wt ∧ (wt = [] ∨ wt.length + left L fd + i ≤ 28))
        ⟨[], js, D, none, none, rfl, s1.trans s2, s1.free hD, (fun z => by rw [← z, upd_same] at hD; cases hD), s2 _ _ upd_same, hD2, Dfs.first hjs, .inr (by have := left_first w; omega)⟩ ?_ ?_
      · rintro i σ H3 hi ⟨fd, wt, wa, x, y, rfl, s3, wa0, hne, hf, hw, dfs, hb28⟩
        refine ⟨_, rfl, wa, _, rfl, .inl (SqL.of hw), _, _, rfl, rfl, _, rfl, ?_⟩
        rw [vi_len, List.length_map]
        refine ite2 (fun h1 => ?_) (fun h1 => ?_)
        · have h2 : 0 < wt.length := by have := of_decide_eq_true h1; omega
          obtain ⟨wt', c, rfl⟩ := snoc_of h2
          have hbn : (wt' ++ [c]).length + left L fd + i ≤ 28 := by
            rcases hb28 with h | h
            · simp at h
            · exact h
          rw [List.length_append, List.length_singleton] at hbn
          have epl : pl L (wt' ++ [c]) = pl L wt' ++ [((st L c : Nat) : Int)] := by unfold pl; rw [List.map_append]; rfl
          rw [epl] at hw
          have hc : c < L.length := (dfs.rw_ c (by simp)).lt
          have hfl : ∀ j ∈ fd, j < L.length := fun j hj => (dfs.rf j hj).lt
          refine ⟨_, rfl, .inl ⟨rfl, _, SqL.of hw⟩, wa, _, _, rfl, rfl, hw, vi_last, ?_⟩
          rw [vi_drop]
          have hf4 : (upd H3 wa (.lst (vi (pl L wt')))) fa = some (.lst (vi (pl L fd))) := by rw [upd_ne hne]; exact hf
          have s4 : Same H (upd H3 wa (.lst (vi (pl L wt')))) := s3.upd_new wa0
          have hw4 : (upd H3 wa (.lst (vi (pl L wt')))) wa = some (.lst (vi (pl L wt'))) := upd_same
          generalize upd H3 wa (.lst (vi (pl L wt'))) = H4 at hf4 s4 hw4 ⊢
          refine ⟨_, rfl, _, rfl, fa, _, rfl, .inl (SqL.of hf4), rfl, by unfold vi; simp [flatV], _, rfl, ?_⟩
          have ein : inV (V.int ((st L c : Nat) : Int)) (vi (pl L fd)) = decide (c ∈ fd) := by
            rw [vi_in]
            exact decide_eq_decide.mpr (pl_in w hfl hc)
          refine ite2 (fun h5 => ?_) (fun h5 => ?_)
          · have hno : c ∉ fd := by rw [if_pos rfl, ein] at h5; simpa using h5
            have hlen := dfs.len
            have hmany := w.many
            have hc3 := w.size c hc
            have hin := st_in hc
            have hfs := flat_small w
            refine ⟨_, rfl, .inl ⟨rfl, _, SqL.of hf4⟩, _, rfl, fa, _, _, rfl, rfl, hf4, small1000 (by rw [vi_len, List.length_map]; omega), ?_⟩
            have epf : vi (pl L fd) ++ [V.int ((st L c : Nat) : Int)] = vi (pl L (fd ++ [c])) := by unfold vi pl; rw [List.map_append, List.map_append]; rfl
            rw [epf]
            have s5 : Same H (upd H4 fa (.lst (vi (pl L (fd ++ [c]))))) := s4.upd_new hfa
            have hf5 : (upd H4 fa (.lst (vi (pl L (fd ++ [c]))))) fa = some (.lst (vi (pl L (fd ++ [c])))) := upd_same
            have hw5 : (upd H4 fa (.lst (vi (pl L (fd ++ [c]))))) wa = some (.lst (vi (pl L wt'))) := by rw [upd_ne hne.symm]; exact hw4
            generalize upd H4 fa (.lst (vi (pl L (fd ++ [c])))) = H5 at s5 hf5 hw5 ⊢
            refine ⟨_, rfl, _, rfl, _, rfl, _, _, rfl, rfl, _, rfl, _, rfl, _, _, rfl, rfl, _, rfl, _, rfl, _, _, rfl, rfl, a, _, _, _, rfl, rfl, s5.sqt ha, vi_at (j := st L c + 2) (flat_third w hc), _, _, rfl, rfl, _, rfl, a, _, rfl, s5.sqt ha, fun hz => ?_, fun hz cu ocu hcu hocu => ?_⟩
            · exfalso
              exact whole_no (xs := L.flatten) (a := st L c) (by omega) hz.1
            · rw [part_cut (n := ln L c - 3) (by omega), flat_cut hc (by omega)]
              have ed : ((row L c).drop 3).take (ln L c - 3) = (row L c).drop 3 := List.take_of_length_le (by rw [List.length_drop]; exact Nat.le_refl _)
              rw [ed]
              have s6 : Same H5 (upd H5 cu (.frz ocu (.tup (vi ((row L c).drop 3))))) := (Same.refl _).upd_new hcu
              have hcu6 : SqT K (upd H5 cu (.frz ocu (.tup (vi ((row L c).drop 3))))) cu (vi ((row L c).drop 3)) := .inl (.inr ⟨ocu, upd_same⟩)
              obtain ⟨js2, hjs2, hjl2⟩ := refs_to w (w.refs c hc)
              refine ⟨cu, rfl, ⟨_, hcu6⟩, fun D2 hD2 => ?_⟩
              refine lc_tup (xs := vi ((row L c).drop 3)) (LcP _ D2 ((row L c).drop 3) refF) (LcP.zero hD2) (fun i H' _ h => h.1.sqt hcu6) ?_ ?_
              · rintro i y H' hi hP
                obtain ⟨v, rfl, hv, hm⟩ := vi_of hi
                refine ⟨rfl, _, rfl, _, _, rfl, rfl, _, rfl, ite2 (fun h1 => ?_) (fun h1 => ?_)⟩
                · have h2 : v ≥ 10000 := of_decide_eq_true h1
                  exact ⟨_, rfl, _, _, rfl, rfl, hP.yes hv (Same.refl _) (by unfold refF; rw [if_pos h2]) hD2 (by rw [List.length_drop]; unfold ln at hc3; omega)⟩
                · have h2 : ¬ v ≥ 10000 := fun z => h1 (decide_eq_true z)
                  exact hP.no hv (Same.refl _) (by unfold refF; rw [if_neg h2])
              · rintro H7 hP
                obtain ⟨s7, hD7⟩ := hP.all
                rw [hjs2.1] at hD7
                have s57 := s6.trans s7
                have hw7 := s57 _ _ hw5
                have hdl : ((row L c).drop 3).length = ln L c - 3 := by rw [List.length_drop]; rfl
                refine ⟨wa, D2, _, _, rfl, rfl, hw7, hD7, Nat.le_of_lt (small1000 (by rw [vi_len, vi_len, List.length_map, List.length_map]; omega)), fun wb hwb => ?_⟩
                have ecat : vi (pl L wt') ++ vi (js2.map fun j => ((st L j : Nat) : Int)) = vi (pl L (wt' ++ js2)) := by unfold vi pl; rw [List.map_append, List.map_append]
                rw [ecat]
                have hf7 := s57 _ _ hf5
                have sH7 := s5.trans s57
                have hln := left_new hc hno
                refine ⟨fd ++ [c], wt' ++ js2, wb, _, _, rfl, sH7.upd_new (sH7.free hwb), sH7.free hwb, ne_of_none hf7 hwb, by rw [upd_ne (ne_of_none hf7 hwb)]; exact hf7, upd_same, dfs.new hno hjs2, .inr ?_⟩
                rw [List.length_append]; omega
          · have hin : c ∈ fd := by rw [if_pos rfl, ein] at h5; simpa using h5
            exact ⟨fd, wt', wa, _, _, rfl, s4, wa0, hne, hf4, hw4, dfs.old hin, .inr (by omega)⟩
        · have h2 : wt = [] := by
            cases wt with
            | nil => rfl
            | cons c t => exfalso; exact h1 (decide_eq_true (by simp only [List.length_cons]; omega))
          subst h2
          exact ⟨fd, [], wa, _, y, rfl, s3, wa0, hne, hf, hw, dfs, .inl rfl⟩
      · rintro σ H3 ⟨fd, wt, wa, x, y, rfl, s3, wa0, hne, hf, hw, dfs, hb28⟩
        have h2 : wt = [] := by
          rcases hb28 with h | h
          · exact h
          · omega
        subst h2
        exact ⟨_, rfl, fa, _, rfl, SqL.of hf, fun ys p hp hs hpn => q _ p ys (s3.upd_new (s3.free hpn)) (dfs.done w hp hs) upd_same⟩
end
end K63

set_option Elab.async false
set_option linter.all false
set_option maxRecDepth 100000
set_option maxHeartbeats 4000000
namespace K63
open PySem PySem.Spec PyProof.Rows L2
def fdk (L : Rows) (fd : List Nat) : List (Key × V) := fd.map fun j => ((Sum.inl ((st L j : Nat) : Int) : Key), V.bl true)
theorem fdk_val {L : Rows} (w : Wf L) {fd : List Nat} (h : ∀ j ∈ fd, j < L.length) {c : Nat} (hc : c < L.length) : valV (fdk L fd) (Sum.inl ((st L c : Nat) : Int)) = if c ∈ fd then some (.bl true) else none := by
  induction fd with
  | nil => rfl
  | cons j t ih =>
    have ih' := ih fun k hk => h k (List.mem_cons_of_mem _ hk)
    unfold fdk at ih' ⊢
    rw [List.map_cons]
    by_cases e : j = c
    · subst e
      rw [valV_pos rfl]; simp
    · have ne : ¬ (Sum.inl ((st L j : Nat) : Int) : Key) = Sum.inl ((st L c : Nat) : Int) := fun z => e (st_inj w (h j List.mem_cons_self) hc (by have := Sum.inl.inj z; omega))
      rw [valV_neg ne, ih']
      have e' : ¬ c = j := fun z => e z.symm
      simp [e']
section
variable {P : Program} {w : World} {K : PySem.W.Frag} {mg : Str → Option Value} {base : Heap} (T : Txt K mg)
include T
theorem ok_reached : FnOk P w K mg base CX0 2 (He.ga K "reached_from") T.d_reached_from ["memory", "roots"] (spReach K) := by
  have G_is_cell := ok_is_cell (P := P) (w := w) (base := base) T
  have G_cell_size := ok_cell_sizeT (P := P) (w := w) (base := base) T
  refine T.F_reached_from.ok sc_reached_from (fun vs H Q E h => ?_) (fun cdv A outer s H vs Q E hr h => ?_)
  · obtain ⟨a, b, L, roots, rfl, _⟩ := h; rfl
  · obtain ⟨a, b, L, roots, rfl, w, ha, hb, hro, hfew, q⟩ := h
    refine ⟨_, PSs.nox (pss_cons (ps_set (i := 2) sc_reached_from.nd rfl (.inl rfl) pe_dnewK)
    (pss_cons (ps_setLc (i := 3) (own := [("value", 6)]) (g := gName 6) (by rfl) sc_reached_from.nd rfl rfl (sw_true rfl rfl rfl (by decide +kernel)) (pi_tup (pv 1)) (blkOk_by (own := [("value", 6)]) (N := ["memory", "roots", "found", "waiting", "at", "items", "value"]) (sc := defScope s_reached_from) (by decide +kernel)) (fun _ _ _ _ _ => (pg_name (i := 6) sc_reached_from.nd rfl (.inl rfl))) (fun _ _ _ _ _ => pts_one (pt_val (pe_call G_is_cell hr (by rfl) T.g_is_cell T.F_is_cell.kp T.b_is_cell .nil pass0 (pa_cons (pv 6) pa_nil)))) (fun _ _ _ _ _ => (pe_op op_sub (pv 6) (pe_gi (i := 10000) rfl T.WORDS))))
    (pss_cons (ps_while PassesOwn.never (pt_cmpR op_gt (pe_callB call_len_seq (by rfl) T.len (by decide +kernel) (pa_cons (pv 3) pa_nil)) pe_int (nomark _))
    (pss_cons (ps_set (i := 4) sc_reached_from.nd rfl (.inl rfl) (pe_bm0 PySem.F.plainAttrs_list PySem.F.slot_list_pop PySem.F.type_list_pop mt_pop (pv 3)))
    (pss_one (ps_if (pt_cmp (pc_dnotin (hu_of hr) (pv 4) (pv 2)))
    (pss_cons (ps_dput (hu_of hr) (pv 2) (pv 4) pe_bl rfl)
    (pss_cons (ps_set (i := 5) sc_reached_from.nd rfl (.inl rfl) (pe_slice sl_tupF (pv 0) (po_some (pe_op op_add (pv 4) (pe_gi (i := 3) rfl T.HEAD))) (po_some (pe_op op_add (pv 4) (pe_call G_cell_size hr (by rfl) T.g_cell_size T.F_cell_size.kp T.b_cell_size .nil pass0 (pa_cons (pv 0) (pa_cons (pv 4) pa_nil)))))))
    (pss_one (ps_expr (pe_bm PySem.F.plainAttrs_list PySem.F.slot_list_extend PySem.F.type_list_extend mt_extend (pv 3) (pa_cons (pe_lc (own := [("value", 6)]) (g := gName 6) (by rfl) sc_reached_from.nd (pi_tup (pv 5)) (blkOk_by (own := [("value", 6)]) (N := ["memory", "roots", "found", "waiting", "at", "items", "value"]) (sc := defScope s_reached_from) (by decide +kernel)) (fun _ _ _ _ _ => (pg_name (i := 6) sc_reached_from.nd rfl (.inl rfl))) (fun _ _ _ _ _ => pts_one (pt_val (pe_call G_is_cell hr (by rfl) T.g_is_cell T.F_is_cell.kp T.b_is_cell .nil pass0 (pa_cons (pv 6) pa_nil)))) (fun _ _ _ _ _ => (pe_op op_sub (pv 6) (pe_gi (i := 10000) rfl T.WORDS)))) pa_nil))))))
    pss_nil))))
    (pss_one (ps_ret (pe_callB (call_sortedDI rfl) (by rfl) T.sorted (by decide +kernel) (pa_cons (pv 2) pa_nil))))))), ?_⟩
    refine fun fa hfa => ?_
    have s1 : Same H (upd H fa (.dK [])) := (Same.refl H).upd_new hfa
    refine ⟨_, rfl, b, rfl, ⟨_, s1.sqt hb⟩, fun D hD => ?_⟩
    refine lc_tup (xs := vi roots) (LcP (upd H fa (.dK [])) D roots refF) (LcP.zero hD) (fun i H' _ h => (s1.trans h.1).sqt hb) ?_ ?_
    · rintro i y H' hi hP
      obtain ⟨v, rfl, hv, hm⟩ := vi_of hi
      refine ⟨rfl, _, rfl, v, rfl, _, rfl, ite2 (fun h1 => ?_) (fun h1 => ?_)⟩
      · have h2 : v ≥ 10000 := of_decide_eq_true h1
        exact ⟨_, rfl, _, _, rfl, rfl, hP.yes hv (Same.refl _) (by unfold refF; rw [if_pos h2]) hD (by omega)⟩
      · have h2 : ¬ v ≥ 10000 := fun z => h1 (decide_eq_true z)
        exact hP.no hv (Same.refl _) (by unfold refF; rw [if_neg h2])
    · rintro H2 hP
      obtain ⟨s2, hD2⟩ := hP.all
      obtain ⟨js, hjs, hjl⟩ := refs_to w hro
      rw [hjs.1] at hD2
      have hD0 : H D = none := s1.free hD
      have hne : fa ≠ D := fun z => by rw [← z, upd_same] at hD; cases hD
      let Pv : Nat → L2.St → Hp → Prop := fun m σ H' => ∃ (fd wt : List Nat) (x y : Option V), σ = [some (.ref a), some (.ref b), some (.ref fa), some (.ref D), x, y, none] ∧ Same H H' ∧ H' fa = some (.dK (fdk L fd)) ∧ H' D = some (.lst (vi (pl L wt))) ∧ Dfs L roots fd wt ∧ wt.length + left L fd = m ∧ m ≤ 28
      refine while_by (fun σ H => ∃ m, Pv m σ H) (mu Pv) ⟨_, [], js, none, none, rfl, s1.trans s2, s2 _ _ upd_same, hD2, Dfs.first hjs, rfl, by have := left_first w; omega⟩ ?_ ?_
      · intro σ H3 hex
        obtain ⟨m, ⟨fd, wt, x, y, rfl, s3, hf, hw, dfs, hm, hm28⟩, hmu⟩ := mu_at hex
        refine ⟨_, rfl, D, _, rfl, .inl (SqL.of hw), _, _, rfl, rfl, _, rfl, ?_⟩
        rw [vi_len, List.length_map]
        refine ite2 (fun h1 => ?_) (fun h1 => ?_)
        · have h2 : 0 < wt.length := by have := of_decide_eq_true h1; omega
          obtain ⟨wt', c, rfl⟩ := snoc_of h2
          rw [List.length_append, List.length_singleton] at hm
          have epl : pl L (wt' ++ [c]) = pl L wt' ++ [((st L c : Nat) : Int)] := by unfold pl; rw [List.map_append]; rfl
          rw [epl] at hw
          have hc : c < L.length := (dfs.rw_ c (by simp)).lt
          have hfl : ∀ j ∈ fd, j < L.length := fun j hj => (dfs.rf j hj).lt
          refine ⟨_, rfl, .inl ⟨rfl, _, SqL.of hw⟩, D, _, _, rfl, rfl, hw, vi_last, ?_⟩
          rw [vi_drop]
          have hf4 : (upd H3 D (.lst (vi (pl L wt')))) fa = some (.dK (fdk L fd)) := by rw [upd_ne hne]; exact hf
          have s4 : Same H (upd H3 D (.lst (vi (pl L wt')))) := s3.upd_new hD0
          have hw4 : (upd H3 D (.lst (vi (pl L wt')))) D = some (.lst (vi (pl L wt'))) := upd_same
          generalize upd H3 D (.lst (vi (pl L wt'))) = H4 at hf4 s4 hw4 ⊢
          have hg : DGet H4 fa (.int ((st L c : Nat) : Int)) (if c ∈ fd then some (.bl true) else none) := by
            have g := DGet.k (k := Sum.inl ((st L c : Nat) : Int)) hf4
            rw [fdk_val w hfl hc] at g; exact g
          refine ⟨_, rfl, _, rfl, fa, _, rfl, hg, _, rfl, ?_⟩
          refine ite2 (fun h5 => ?_) (fun h5 => ?_)
          · have hno : c ∉ fd := fun z => by rw [if_pos z] at h5; cases h5
            have hlen := dfs.len
            have hmany := w.many
            have hc3 := w.size c hc
            have hin := st_in hc
            have hfs := flat_small w
            have enew : valV (fdk L fd) (Sum.inl ((st L c : Nat) : Int)) = none := by rw [fdk_val w hfl hc, if_neg hno]
            have eput : putK (fdk L fd) (Sum.inl ((st L c : Nat) : Int)) (.bl true) = fdk L (fd ++ [c]) := by
              rw [putK_new _ enew]; unfold fdk; rw [List.map_append]; rfl
            refine ⟨_, rfl, _, rfl, fa, _, rfl, DPut.k (k := Sum.inl ((st L c : Nat) : Int)) hf4 (small1000 (by unfold fdk; rw [List.length_map]; omega)), ?_⟩
            rw [eput]
            have s5 : Same H (upd H4 fa (.dK (fdk L (fd ++ [c])))) := s4.upd_new hfa
            have hf5 : (upd H4 fa (.dK (fdk L (fd ++ [c])))) fa = some (.dK (fdk L (fd ++ [c]))) := upd_same
            have hw5 : (upd H4 fa (.dK (fdk L (fd ++ [c])))) D = some (.lst (vi (pl L wt'))) := by rw [upd_ne hne.symm]; exact hw4
            generalize upd H4 fa (.dK (fdk L (fd ++ [c]))) = H5 at s5 hf5 hw5 ⊢
            refine ⟨_, rfl, _, rfl, _, _, rfl, rfl, _, rfl, _, rfl, _, rfl, _, rfl, a, st L c, _, _, rfl, s5.sqt ha, flat_third w hc, _, _, rfl, rfl, _, rfl, a, _, rfl, s5.sqt ha, fun hz => ?_, fun hz cu ocu hcu hocu => ?_⟩
            · exfalso
              exact whole_no (xs := L.flatten) (a := st L c) (by omega) hz.1
            · rw [part_cut3 (n := ln L c - 3) (by omega), flat_cut hc (by omega)]
              have ed : ((row L c).drop 3).take (ln L c - 3) = (row L c).drop 3 := List.take_of_length_le (by rw [List.length_drop]; exact Nat.le_refl _)
              rw [ed]
              have s6 : Same H5 (upd H5 cu (.frz ocu (.tup (vi ((row L c).drop 3))))) := (Same.refl _).upd_new hcu
              have hcu6 : SqT K (upd H5 cu (.frz ocu (.tup (vi ((row L c).drop 3))))) cu (vi ((row L c).drop 3)) := .inl (.inr ⟨ocu, upd_same⟩)
              obtain ⟨js2, hjs2, hjl2⟩ := refs_to w (w.refs c hc)
              have hw6 := s6 _ _ hw5
              refine ⟨_, rfl, .inl ⟨rfl, _, SqL.of hw6⟩, _, rfl, cu, rfl, ⟨_, hcu6⟩, fun D2 hD2 => ?_⟩
              refine lc_tup (xs := vi ((row L c).drop 3)) (LcP _ D2 ((row L c).drop 3) refF) (LcP.zero hD2) (fun i H' _ h => h.1.sqt hcu6) ?_ ?_
              · rintro i y H' hi hP
                obtain ⟨v, rfl, hv, hm⟩ := vi_of hi
                refine ⟨rfl, _, rfl, v, rfl, _, rfl, ite2 (fun h1 => ?_) (fun h1 => ?_)⟩
                · have h2 : v ≥ 10000 := of_decide_eq_true h1
                  exact ⟨_, rfl, _, _, rfl, rfl, hP.yes hv (Same.refl _) (by unfold refF; rw [if_pos h2]) hD2 (by rw [List.length_drop]; unfold ln at hc3; omega)⟩
                · have h2 : ¬ v ≥ 10000 := fun z => h1 (decide_eq_true z)
                  exact hP.no hv (Same.refl _) (by unfold refF; rw [if_neg h2])
              · rintro H7 hP
                obtain ⟨s7, hD7⟩ := hP.all
                rw [hjs2.1] at hD7
                have s57 := s6.trans s7
                have hw7 := s57 _ _ hw5
                have hdl : ((row L c).drop 3).length = ln L c - 3 := by rw [List.length_drop]; rfl
                refine ⟨D, D2, _, _, rfl, rfl, hw7, hD7, Nat.le_of_lt (small1000 (by rw [vi_len, vi_len, List.length_map, List.length_map]; omega)), ?_⟩
                have ecat : vi (pl L wt') ++ vi (js2.map fun j => ((st L j : Nat) : Int)) = vi (pl L (wt' ++ js2)) := by unfold vi pl; rw [List.map_append, List.map_append]
                rw [ecat]
                have hf7 := s57 _ _ hf5
                have sH7 := s5.trans s57
                have hln := left_new hc hno
                exact mu_lt hmu (m' := (wt' ++ js2).length + left L (fd ++ [c])) (by rw [List.length_append]; omega) ⟨fd ++ [c], wt' ++ js2, _, _, rfl, sH7.upd_new hD0, by rw [upd_ne hne]; exact hf7, upd_same, dfs.new hno hjs2, rfl, by rw [List.length_append]; omega⟩
          · have hin : c ∈ fd := by
              by_cases z : c ∈ fd
              · exact z
              · exfalso; rw [if_neg z] at h5; exact h5 rfl
            exact mu_lt hmu (m' := wt'.length + left L fd) (by omega) ⟨fd, wt', _, _, rfl, s4, hf4, hw4, dfs.old hin, rfl, by omega⟩
        · have h2 : wt = [] := by
            cases wt with
            | nil => rfl
            | cons c t => exfalso; exact h1 (decide_eq_true (by simp only [List.length_cons]; omega))
          subst h2
          have hlen := dfs.len
          have hmany := w.many
          exact ⟨_, rfl, fa, _, pl L fd, rfl, Rd.of hf, by unfold fdk pl; rw [List.map_map, List.map_map]; rfl, by rw [List.length_map]; omega, fun ys p hp hs hpn => q _ p ys (s3.upd_new (s3.free hpn)) (dfs.done w hp hs) upd_same⟩
      · rintro σ H Q Q' hm ⟨y, hy, l, ys, e6, e7, i, j, e8, e9, k, e10, q⟩
        exact ⟨y, hy, l, ys, e6, e7, i, j, e8, e9, k, e10, hm _ _ q⟩
end
end K63

set_option Elab.async false
set_option linter.all false
set_option maxRecDepth 100000
set_option maxHeartbeats 4000000
namespace K63
open PySem PySem.Spec PyProof.Rows L2
theorem dp_all {K : PySem.W.Frag} {H : Hp} : ∀ ns : List Int, DpAll K H (vi ns) (ns.map PyData.int)
  | [] => .nil
  | n :: t => .cons (.int n) (dp_all t)
theorem dp_l {K : PySem.W.Frag} {H : Hp} {a : Addr} {ns : List Int} (h : SqL K H a (vi ns)) : Dp K H (.ref a) (di ns) := .lst h (dp_all ns)
theorem dp_h {K : PySem.W.Frag} {H : Hp} {a : Addr} {ns : List Int} (h : H a = some (.lst (vi ns))) : Dp K H (.ref a) (di ns) := dp_l (SqL.of h)
theorem cut_gen {α : Type} {xs : List α} {a b : Nat} (h : a ≤ b) : (xs.drop (min a xs.length)).take (min b xs.length - min a xs.length) = (xs.drop a).take (b - a) := by
  rcases Nat.lt_or_ge a xs.length with h1 | h1
  · rw [Nat.min_eq_left (Nat.le_of_lt h1)]
    rcases Nat.lt_or_ge b xs.length with h2 | h2
    · rw [Nat.min_eq_left (Nat.le_of_lt h2)]
    · rw [Nat.min_eq_right h2, List.take_of_length_le (by rw [List.length_drop]; exact Nat.le_refl _), List.take_of_length_le (by rw [List.length_drop]; omega)]
  · rw [Nat.min_eq_right h1, Nat.min_eq_right (by omega), List.drop_of_length_le (Nat.le_refl _), List.drop_of_length_le h1, List.take_nil, List.take_nil]
theorem vi_cutG {xs : List Int} {a b : Nat} (h : a ≤ b) : cutV (vi xs) (some ((a : Nat) : Int)) (some ((b : Nat) : Int)) = vi ((xs.drop a).take (b - a)) := by
  unfold cutV
  rw [HT.sIx_nat, HT.sIx_nat, cut_gen h]
  unfold vi
  rw [List.map_take, List.map_drop]
theorem slice_ok {K : PySem.W.Frag} {H : Hp} {a : Addr} {xs : List Int} {Q : VK} {A B : Nat} (hx : SqT K H a (vi xs)) (h : A ≤ B) (q : ∀ t H', Same H H' → SqT K H' t (vi ((xs.drop A).take (B - A))) → Q (.ref t) H') :
    (HT.sIx (vi xs).length 0 (some ((A : Nat) : Int)) = 0 ∧ HT.sIx (vi xs).length (vi xs).length (some ((B : Nat) : Int)) = (vi xs).length → Q (.ref a) H) ∧
    (¬ (HT.sIx (vi xs).length 0 (some ((A : Nat) : Int)) = 0 ∧ HT.sIx (vi xs).length (vi xs).length (some ((B : Nat) : Int)) = (vi xs).length) → NewF H (cutV (vi xs) (some ((A : Nat) : Int)) (some ((B : Nat) : Int))) Q) := by
  refine ⟨fun hz => q _ _ (Same.refl _) ?_, fun _ p o hp ho => q _ _ ((Same.refl _).upd_new hp) ?_⟩
  · rw [HT.sIx_nat, HT.sIx_nat, vi_len] at hz
    have e : (xs.drop A).take (B - A) = xs := by
      rw [← cut_gen h, hz.1, hz.2, List.drop_zero, Nat.sub_zero, List.take_length]
    rw [e]; exact hx
  · rw [← vi_cutG h]
    exact .inl (.inr ⟨o, upd_same⟩)
theorem slice_F {K : PySem.W.Frag} {H : Hp} {a : Addr} {xs : List Int} {Q : VK} {lo hi : Int} (A B : Nat) (e1 : lo = (A : Nat)) (e2 : hi = (B : Nat)) (hx : SqT K H a (vi xs)) (h : A ≤ B) (q : ∀ t H', Same H H' → SqT K H' t (vi ((xs.drop A).take (B - A))) → Q (.ref t) H') :
    rSlF K (.ref a) (some lo) (some hi) H Q := by
  subst e1 e2; exact ⟨a, _, rfl, hx, slice_ok hx h q⟩
theorem mergeK_app : ∀ (more acc : List (Key × V)), ((acc ++ more).map (·.1)).Nodup → mergeK acc more = acc ++ more
  | [], acc, _ => by unfold mergeK; simp
  | kv :: more, acc, h => by
    have hno : valV acc kv.1 = none := by
      unfold valV
      have e : acc.find? (fun z => decide (z.1 = kv.1)) = none := by
        rw [List.find?_eq_none]
        intro z hz
        simp only [decide_eq_true_eq]
        intro e
        rw [List.map_append, List.nodup_append] at h
        exact h.2.2 z.1 (List.mem_map_of_mem hz) kv.1 (by simp) e
      rw [e]; rfl
    have e1 : mergeK acc (kv :: more) = mergeK (putK acc kv.1 kv.2) more := rfl
    have ih := mergeK_app more (acc ++ [kv]) (by rw [List.append_assoc]; exact h)
    rw [e1, putK_new _ hno, ih]
    simp
theorem mergeK_id {kvs : List (Key × V)} (h : (kvs.map (·.1)).Nodup) : mergeK [] kvs = kvs := by
  rw [mergeK_app kvs [] (by simpa using h)]; rfl
def zkv (L : Rows) (zs : List (Addr × (Nat × Nat))) : List (Key × V) := zs.map fun z => ((Sum.inl ((st L z.2.1 : Nat) : Int) : Key), V.int ((z.2.2 : Nat) : Int))
theorem paired_of {K : PySem.W.Frag} {H : Hp} {L : Rows} : ∀ {zs : List (Addr × (Nat × Nat))}, (∀ z ∈ zs, SqT K H z.1 [.int ((st L z.2.1 : Nat) : Int), .int ((z.2.2 : Nat) : Int)]) →
    Paired (fun (p : Addr) (kv : Key × V) => SqT K H p [kV kv.1, kv.2]) (zs.map Prod.fst) (zkv L zs)
  | [], _ => .nil
  | z :: t, h => .cons (h z List.mem_cons_self) (paired_of fun u hu => h u (List.mem_cons_of_mem _ hu))
theorem kvi_ip {L : Rows} (zs : List (Addr × (Nat × Nat))) : zkv L zs = kvi (ip L (zs.map (·.2))) := by
  unfold zkv kvi ip; rw [List.map_map, List.map_map]; rfl
theorem ip_keys {L : Rows} {pp : List (Nat × Nat)} : (kvi (ip L pp)).map (·.1) = (pp.map fun e => ((st L e.1 : Nat) : Int)).map Sum.inl := by
  unfold kvi ip; rw [List.map_map, List.map_map, List.map_map]; rfl
theorem ip_vals {L : Rows} {pp : List (Nat × Nat)} : (kvi (ip L pp)).map (·.2) = vi (pp.map fun e => ((e.2 : Nat) : Int)) := by
  unfold kvi ip vi; rw [List.map_map, List.map_map, List.map_map]; rfl
theorem ip_nodup {L O : Rows} {roots : List Int} {pp : List (Nat × Nat)} (p : Pre L O roots pp) : (pp.map fun e => ((st L e.1 : Nat) : Int)).Nodup := by
  have h := p.nd
  rw [List.nodup_iff_pairwise_ne, List.pairwise_map] at h ⊢
  exact List.Pairwise.imp_of_mem (fun {a b} ha hb hne z => hne (st_inj p.wL (p.rc a ha).lt (p.rc b hb).lt (by omega))) h
theorem all_iff {L O : Rows} {roots : List Int} {pp : List (Nat × Nat)} (p : Pre L O roots pp) {ys zs : List Int} (hp : ys.Perm (pp.map fun e => ((st L e.1 : Nat) : Int))) (hs : ys.Pairwise (· ≤ ·)) (hz : Rch L roots zs) : ys = zs ↔ All L roots pp := by
  have hn : ys.Nodup := hp.nodup_iff.mpr (ip_nodup p)
  constructor
  · intro e j hj
    subst e
    have h1 : ((st L j : Nat) : Int) ∈ ys := (hz.2 _).mpr ⟨j, hj, rfl⟩
    obtain ⟨f, hf, ef⟩ := List.mem_map.mp (hp.mem_iff.mp h1)
    have := st_inj p.wL (p.rc f hf).lt hj.lt (by omega)
    rw [← this]; exact List.mem_map_of_mem hf
  · intro ha
    refine Rch.uniq (L := L) (roots := roots) ⟨sorted_strict hs hn, fun y => ?_⟩ hz
    rw [hp.mem_iff, List.mem_map]
    constructor
    · rintro ⟨f, hf, ef⟩; exact ⟨f.1, p.rc f hf, ef.symm⟩
    · rintro ⟨j, hj, ej⟩
      obtain ⟨f, hf, ef⟩ := List.mem_map.mp (ha j hj)
      exact ⟨f, hf, by rw [ef]; exact ej.symm⟩
theorem starts_sorted {O : Rows} (w : Wf O) : (starts O).Pairwise (· ≤ ·) := by
  unfold starts
  rw [List.pairwise_map]
  have h : (List.range O.length).Pairwise (fun a b => a ∈ List.range O.length → b ∈ List.range O.length → ((st O a : Nat) : Int) ≤ (st O b : Nat)) :=
    List.Pairwise.imp (fun {a b} hab ha hb => by
      have := st_mono (L := O) (Nat.le_of_lt hab) (Nat.le_of_lt (List.mem_range.mp hb)); omega) List.pairwise_lt_range
  exact List.Pairwise.imp_of_mem (fun ha hb hab => hab ha hb) h
theorem news_iff {O : Rows} (w : Wf O) {ns ys : List Int} (hp : ys.Perm ns) (hs : ys.Pairwise (· ≤ ·)) : ys = starts O ↔ ns.Perm (starts O) := by
  constructor
  · intro e; subst e; exact hp.symm
  · intro h
    exact List.Perm.eq_of_pairwise (le := (· ≤ ·)) (fun a b _ _ h h' => Int.le_antisymm h h') hs (starts_sorted w) (hp.trans h)
theorem nb {A B : List Int} (h : (!decide (A = B)) = true) : ¬ A = B := fun e => by rw [decide_eq_true e] at h; cases h
theorem nb' {A B : List Int} (h : ¬ (!decide (A = B)) = true) : A = B := by
  by_cases e : A = B
  · exact e
  · exfalso; apply h; rw [decide_eq_false e]; rfl
theorem fm_some {α β : Type} {f : α → β} {xs : List α} : xs.filterMap (fun v => some (f v)) = xs.map f := by
  induction xs with
  | nil => rfl
  | cons x t ih => rw [List.filterMap_cons, ih]; rfl
def spJudge (K : PySem.W.Frag) : Sp := fun vs H Q _ => ∃ (a b o bh pa : Addr) (L O : Rows) (roots bhv : List Int) (pp : List (Nat × Nat)), vs = [.ref a, .ref b, .ref o, .ref bh, .ref pa] ∧ Pre L O roots pp ∧ SqT K H a (vi L.flatten) ∧ SqT K H b (vi roots) ∧
  SqT K H o (vi O.flatten) ∧ SqT K H bh (vi bhv) ∧ bhv.length ≤ 4 ∧ Paper K L H pa pp ∧ ∀ H' c, Same H H' → (c = true ↔ Judge L O roots bhv pp) → Q (.bl c) H'
section
variable {P : Program} {w : World} {K : PySem.W.Frag} {mg : Str → Option Value} {base : Heap} (T : Txt K mg)
include T
theorem ok_check : FnOk P w K mg base CX0 3 (He.ga K "check_collected") T.d_check_collected ["memory", "roots", "other", "behind", "paper"] (spJudge K) := by
  have G_reached_from := ok_reached (P := P) (w := w) (base := base) T
  have G_starts_in := ok_starts (P := P) (w := w) (base := base) T
  have G_turned := ok_turned (P := P) (w := w) (base := base) T
  have G_cell_size := ok_cell_sizeT (P := P) (w := w) (base := base) T
  refine T.F_check_collected.ok sc_check_collected (fun vs H Q E h => ?_) (fun cdv A outer s H vs Q E hr h => ?_)
  · obtain ⟨a, b, o, bh, pa, L, O, roots, bhv, pp, rfl, _⟩ := h; rfl
  · obtain ⟨a, b, o, bh, pa, L, O, roots, bhv, pp, rfl, p, ha, hb, ho, hbh, hbl, ⟨zs, rfl, hpa, hzs⟩, q⟩ := h
    have hr1 : Room 1 _ := hr.mono (by decide)
    refine ⟨_, PSs.nox (pss_cons (ps_set (i := 5) sc_check_collected.nd rfl (.inr rfl) (pe_callTy (call_dictF rfl) (by rfl) T.dict (by decide +kernel) (pa_cons (pv 4) pa_nil)))
    (pss_cons (ps_if (PW.pt (pw_or (pt_cmpR op_ne (pe_callB call_lenD (by rfl) T.len (by decide +kernel) (pa_cons (pv 5) pa_nil)) (pe_callB call_len_seq (by rfl) T.len (by decide +kernel) (pa_cons (pv 4) pa_nil)) (nomark _)) (pw_or1 (pt_cmpR (op_neD hr.units) (pe_callB (call_sortedDI rfl) (by rfl) T.sorted (by decide +kernel) (pa_cons (pv 5) pa_nil)) (pe_call G_reached_from hr (by rfl) T.g_reached_from T.F_reached_from.kp T.b_reached_from .nil pass0 (pa_cons (pv 0) (pa_cons (pv 1) pa_nil))) (nomark _)))))
    (pss_one (ps_ret pe_bl))
    pss_nil)
    (pss_cons (ps_if (pt_cmpR (op_neD hr.units) (pe_callB (cr_sortedVals rfl) (by rfl) T.sorted (by decide +kernel) (pa_cons (pe_bm0 PySem.F.plainAttrs_dict PySem.F.slot_dict_values PySem.F.type_dict_values mt_valuesK (pv 5)) pa_nil)) (pe_call G_starts_in hr (by rfl) T.g_starts_in T.F_starts_in.kp T.b_starts_in .nil pass0 (pa_cons (pv 2) pa_nil)) (nomark _))
    (pss_one (ps_ret pe_bl))
    pss_nil)
    (pss_cons (ps_if (pt_cmpR (op_neD hr.units) (pe_lc (own := [("value", 9)]) (g := gName 9) (tt := tYes) (by rfl) sc_check_collected.nd (pi_tup (pv 1)) (blkOk_by (own := [("value", 9)]) (N := ["memory", "roots", "other", "behind", "paper", "moved", "old", "new", "items", "value"]) (sc := defScope s_check_collected) (by decide +kernel)) (fun _ _ _ _ _ => (pg_name (i := 9) sc_check_collected.nd rfl (.inl rfl))) (fun _ _ _ _ _ => pts_nil) (fun _ _ _ _ _ => (pe_call G_turned hr (by rfl) T.g_turned T.F_turned.kp T.b_turned .nil pass0 (pa_cons (pv 5) (pa_cons (pv 9) pa_nil))))) (pe_callTy call_list_of (by rfl) T.list (by decide +kernel) (pa_cons (pv 3) pa_nil)) (nomark _))
    (pss_one (ps_ret pe_bl))
    pss_nil)
    (pss_cons (ps_for PassesOwn.never rfl (pi_tup (pv 4)) (pg_tup rfl (pgs_cons (pg_name (i := 6) sc_check_collected.nd rfl (.inl rfl)) (pgs_cons (pg_name (i := 7) sc_check_collected.nd rfl (.inl rfl)) pgs_nil)))
    (pss_cons (ps_setLc (i := 8) (own := [("value", 9)]) (g := gName 9) (tt := tYes) (by rfl) sc_check_collected.nd rfl rfl (sw_true rfl rfl rfl (by decide +kernel)) (pi_tup (pe_slice sl_tupF (pv 0) (po_some (pe_op op_add (pv 6) (pe_gi (i := 3) rfl T.HEAD))) (po_some (pe_op op_add (pv 6) (pe_call G_cell_size hr1 (by rfl) T.g_cell_size T.F_cell_size.kp T.b_cell_size .nil pass0 (pa_cons (pv 0) (pa_cons (pv 6) pa_nil))))))) (blkOk_by (own := [("value", 9)]) (N := ["memory", "roots", "other", "behind", "paper", "moved", "old", "new", "items", "value"]) (sc := defScope s_check_collected) (by decide +kernel)) (fun _ _ _ _ _ => (pg_name (i := 9) sc_check_collected.nd rfl (.inl rfl))) (fun _ _ _ _ _ => pts_nil) (fun _ _ _ _ _ => (pe_call G_turned hr (by rfl) T.g_turned T.F_turned.kp T.b_turned .nil pass0 (pa_cons (pv 5) (pa_cons (pv 9) pa_nil)))))
    (pss_one (ps_if (pt_cmpR (op_neD hr.units) (pe_op op_cat (pe_callTy call_list_of (by rfl) T.list (by decide +kernel) (pa_cons (pe_slice sl_tupF (pv 0) (po_some (pv 6)) (po_some (pe_op op_add (pv 6) (pe_gi (i := 3) rfl T.HEAD)))) pa_nil)) (pv 8)) (pe_callTy call_list_of (by rfl) T.list (by decide +kernel) (pa_cons (pe_slice sl_tupF (pv 2) (po_some (pv 7)) (po_some (pe_op op_add (pe_op op_add (pv 7) (pe_gi (i := 3) rfl T.HEAD)) (pe_callB call_len_seq (by rfl) T.len (by decide +kernel) (pa_cons (pv 8) pa_nil))))) pa_nil)) (nomark _))
    (pss_one (ps_ret pe_bl))
    pss_nil))))
    (pss_one (ps_ret pe_bl))))))), ?_⟩
    have hzlen : zs.length ≤ 8 := by
      have h := List.Nodup.length_le_of_subset (l₂ := List.range L.length) p.nd fun j hj => by
        obtain ⟨e, he, rfl⟩ := List.mem_map.mp hj
        exact List.mem_range.mpr (p.rc e he).lt
      rw [List.length_range, List.length_map, List.length_map] at h
      exact Nat.le_trans h p.wL.many
    have hkeys : ((kvi (ip L (zs.map (·.2)))).map (·.1)).Nodup := by
      rw [ip_keys, List.nodup_iff_pairwise_ne, List.pairwise_map]
      exact List.Pairwise.imp (fun h z => h (Sum.inl.inj z)) (List.nodup_iff_pairwise_ne.mp (ip_nodup p))
    refine ⟨_, rfl, pa, zs.map Prod.fst, zkv L zs, rfl, (by rw [List.map_map]; exact hpa), paired_of hzs, fun d hd => ?_⟩
    rw [kvi_ip, mergeK_id hkeys]
    have s1 : Same H (upd H d (.dK (kvi (ip L (zs.map (·.2)))))) := (Same.refl H).upd_new hd
    have hd1 : (upd H d (.dK (kvi (ip L (zs.map (·.2)))))) d = some (.dK (kvi (ip L (zs.map (·.2))))) := upd_same
    generalize upd H d (.dK (kvi (ip L (zs.map (·.2))))) = H1 at s1 hd1 ⊢
    refine ⟨_, rfl, d, _, rfl, hd1, _, rfl, pa, _, rfl, .inr (hpa.same s1).sq, rfl, _, rfl, ?_⟩
    refine ite2 (fun h => ?_) (fun _ => ?_)
    · exfalso
      have e : (kvi (ip L (zs.map (·.2)))).length = (zs.map fun z => V.ref z.1).length := by unfold kvi ip; simp only [List.length_map]
      rw [e] at h
      simp at h
    refine ⟨_, rfl, d, _, (zs.map (·.2)).map (fun e => ((st L e.1 : Nat) : Int)), rfl, Rd.of hd1, ip_keys, by rw [List.length_map, List.length_map]; omega, fun ys ya hp hs hya => ?_⟩
    have s2 : Same H1 (upd H1 ya (.lst (vi ys))) := (Same.refl H1).upd_new hya
    have hya2 : (upd H1 ya (.lst (vi ys))) ya = some (.lst (vi ys)) := upd_same
    refine ⟨_, rfl, _, rfl, a, b, L, roots, rfl, p.wL, (s1.trans s2).sqt ha, (s1.trans s2).sqt hb, p.ro, p.few, fun H3 ra rs s3 hR hra => ?_⟩
    have s13 := s2.trans s3
    refine ⟨di ys, di rs, dp_h (s3 _ _ hya2), dp_h hra, di_shaped _, di_shaped _, _, rfl, ?_⟩
    rw [di_eqv]
    refine ite2 (fun h => ?_) (fun h => ?_)
    · have hne : ¬ ys = rs := by simpa using h
      exact q H3 false (s1.trans s13) ⟨(fun z => by cases z), fun z => absurd ((all_iff p hp hs hR).mpr z.1) hne⟩
    have hall : All L roots (zs.map (·.2)) := (all_iff p hp hs hR).mp (by simpa using h)
    -- the values
    have hd3 := s13 _ _ hd1
    refine ⟨_, rfl, .inr (.inr (.inl ⟨rfl, .inl ⟨_, hd3⟩⟩)), d, _, rfl, rfl, hd3, fun vw hvw => ?_⟩
    have s4 : Same H3 (upd H3 vw (valuesO vw d)) := (Same.refl H3).upd_new hvw
    refine ⟨vw, d, _, (zs.map (·.2)).map (fun e => ((e.2 : Nat) : Int)), rfl, upd_same, s4 _ _ hd3, ip_vals, fun ns na hp2 hs2 hna => ?_⟩
    have s5 : Same (upd H3 vw (valuesO vw d)) (upd (upd H3 vw (valuesO vw d)) na (.lst (vi ns))) := (Same.refl _).upd_new hna
    have hna5 : (upd (upd H3 vw (valuesO vw d)) na (.lst (vi ns))) na = some (.lst (vi ns)) := upd_same
    have s05 := (s1.trans s13).trans (s4.trans s5)
    refine ⟨_, rfl, o, O, rfl, p.wO, s05.sqt ho, fun H6 sa s6 _ hsa => ?_⟩
    have s06 := s05.trans s6
    refine ⟨di ns, di (starts O), dp_h (s6 _ _ hna5), dp_h hsa, di_shaped _, di_shaped _, _, rfl, ?_⟩
    rw [di_eqv]
    refine ite2 (fun h => ?_) (fun h => ?_)
    · have hne : ¬ ns = starts O := by simpa using h
      exact q H6 false s06 ⟨(fun z => by cases z), fun z => absurd ((news_iff p.wO hp2 hs2).mpr z.2.1) hne⟩
    have hnew := (news_iff p.wO hp2 hs2).mp (by simpa using h)
    -- the roots
    have hd6 := (s4.trans (s5.trans s6)) _ _ hd3
    refine ⟨_, rfl, b, rfl, ⟨_, s06.sqt hb⟩, fun D hD => ?_⟩
    refine lc_tup (xs := vi roots) (LcP H6 D roots (fun v => some (tv (ip L (zs.map (·.2))) v))) (LcP.zero hD) (fun i H' _ h => (s06.trans h.1).sqt hb) ?_ ?_
    · rintro i y H' hi hP
      obtain ⟨v, rfl, hv, hm⟩ := vi_of hi
      refine ⟨rfl, _, rfl, _, rfl, d, v, _, rfl, hP.1 _ _ hd6, fun h2 => ?_, hP.yes hv (Same.refl _) rfl hD (by have := p.few; omega)⟩
      obtain ⟨n, hn⟩ := found p (p.ro v hm) h2 (fun j hj e => .root hj (by rw [← e]; exact hm)) hall
      exact ⟨_, hn⟩
    · rintro H7 hP
      obtain ⟨s7, hD7⟩ := hP.all
      rw [show roots.filterMap (fun v => some (tv (ip L (zs.map (·.2))) v)) = roots.map (tv (ip L (zs.map (·.2)))) from fm_some] at hD7
      have s07 := s06.trans s7
      have hd7 := s7 _ _ hd6
      refine ⟨_, rfl, bh, _, rfl, .inr (s07.sqt hbh), fun la hla => ?_⟩
      have s8 : Same H7 (upd H7 la (.lst (vi bhv))) := (Same.refl H7).upd_new hla
      have s08 := s07.trans s8
      have hd8 := s8 _ _ hd7
      refine ⟨di (roots.map (tv (ip L (zs.map (·.2))))), di bhv, dp_h (s8 _ _ hD7), dp_h upd_same, di_shaped _, di_shaped _, _, rfl, ?_⟩
      rw [di_eqv]
      generalize upd H7 la (.lst (vi bhv)) = H8 at s8 s08 hd8 ⊢
      refine ite2 (fun h => ?_) (fun h => ?_)
      · have hne : ¬ roots.map (tv (ip L (zs.map (·.2)))) = bhv := by simpa using h
        exact q _ false s08 ⟨(fun z => by cases z), fun z => absurd z.2.2.1 hne⟩
      have hroots : roots.map (tv (ip L (zs.map (·.2)))) = bhv := by simpa using h
      -- the cells
      refine ⟨_, rfl, pa, rfl, ⟨_, (hpa.same s08).sq⟩, ?_⟩
      refine for_tup (K := K) (a := pa) (xs := zs.map fun z => V.ref z.1) (fun i σ H' => ∃ x6 x7 x8 : Option V, σ = [some (.ref a), some (.ref b), some (.ref o), some (.ref bh), some (.ref pa), some (.ref d), x6, x7, x8, none] ∧ Same H8 H' ∧ ∀ e ∈ (zs.take i).map (·.2), CellEq L O (zs.map (·.2)) e)
        ⟨none, none, none, rfl, Same.refl _, by simp⟩ (fun i σ H' _ ⟨_, _, _, _, s9, _⟩ => s9.sqt (hpa.same s08).sq) ?_ ?_
      · rintro i y σ H9 hi ⟨x6, x7, x8, rfl, s9, hcells⟩
        obtain ⟨z, hz, rfl⟩ : ∃ z, zs[i]? = some z ∧ y = V.ref z.1 := by
          rw [List.getElem?_map] at hi
          cases e : zs[i]? with
          | none => rw [e] at hi; cases hi
          | some z => rw [e] at hi; exact ⟨z, rfl, (Option.some.inj hi).symm⟩
        have hzm : z ∈ zs := List.mem_of_getElem? hz
        obtain ⟨zp, j, n⟩ := z
        have hrc : Rc L roots j := p.rc (j, n) (List.mem_map_of_mem (f := fun x : Addr × (Nat × Nat) => x.2) hzm)
        have hj := hrc.lt
        have hj3 := p.wL.size j hj
        have s09 := s08.trans s9
        have hq : SqT K H zp [.int ((st L j : Nat) : Int), .int ((n : Nat) : Int)] := hzs _ hzm
        refine ⟨zp, _, rfl, s09.sqt hq, rfl, ?_⟩
        refine ⟨_, _, rfl, _, _, rfl, rfl, _, rfl, _, rfl, _, _, rfl, rfl, _, rfl, _, rfl, _, rfl, _, rfl, a, st L j, _, _, rfl, s09.sqt ha, flat_third p.wL hj, _, _, rfl, rfl, _, rfl, 
          slice_F (st L j + 3) (st L j + (3 + (ln L j - 3))) (by omega) (by omega) (s09.sqt ha) (by omega) fun t H10 s10 ht => ?_⟩
        have ecut : (L.flatten.drop (st L j + 3)).take (st L j + (3 + (ln L j - 3)) - (st L j + 3)) = (row L j).drop 3 := by
          rw [show st L j + (3 + (ln L j - 3)) - (st L j + 3) = ln L j - 3 by omega, flat_cut hj (by omega)]
          exact List.take_of_length_le (by rw [List.length_drop]; exact Nat.le_refl _)
        rw [ecut] at ht
        have hd10 := (s9.trans s10) _ _ hd8
        refine ⟨t, rfl, ⟨_, ht⟩, fun D2 hD2 => ?_⟩
        refine lc_tup (xs := vi ((row L j).drop 3)) (LcP H10 D2 ((row L j).drop 3) (fun v => some (tv (ip L (zs.map (·.2))) v))) (LcP.zero hD2) (fun i H' _ h => h.1.sqt ht) ?_ ?_
        · rintro i y H' hi hP
          obtain ⟨v, rfl, hv, hm⟩ := vi_of hi
          refine ⟨rfl, _, rfl, _, rfl, d, v, _, rfl, hP.1 _ _ hd10, fun h2 => ?_, hP.yes hv (Same.refl _) rfl hD2 (by rw [List.length_drop]; unfold ln at hj3; omega)⟩
          obtain ⟨n, hn⟩ := found p (p.wL.refs j hj v hm) h2 (fun k hk e => .step hrc hj hk (by rw [← e]; exact hm)) hall
          exact ⟨_, hn⟩
        · rintro H11 hP
          obtain ⟨s11, hD11⟩ := hP.all
          rw [fm_some] at hD11
          have s011 := (s09.trans s10).trans s11
          refine ⟨_, rfl, _, rfl, _, rfl, _, rfl, _, _, rfl, rfl, _, rfl, slice_F (st L j) (st L j + 3) (by omega) (by omega) (s011.sqt ha) (by omega) fun t2 H12 s12 ht2 => ?_⟩
          have ecut2 : (L.flatten.drop (st L j)).take (st L j + 3 - st L j) = (row L j).take 3 := by
            have e := flat_cut (L := L) (j := j) (a := 0) (n := 3) hj (by omega)
            rw [Nat.add_zero, List.drop_zero] at e
            rw [Nat.add_sub_cancel_left]; exact e
          rw [ecut2] at ht2
          refine ⟨t2, _, rfl, .inr ht2, fun l2 hl2 => ?_⟩
          have hD12 := s12 _ _ hD11
          have s13 : Same H12 (upd H12 l2 (.lst (vi ((row L j).take 3)))) := (Same.refl _).upd_new hl2
          refine ⟨_, rfl, l2, D2, _, _, rfl, rfl, upd_same, s13 _ _ hD12, Nat.le_of_lt (small1000 (by rw [vi_len, vi_len, List.length_take, List.length_map, List.length_drop]; unfold ln at hj3; omega)), fun l3 hl3 => ?_⟩
          have ecat : vi ((row L j).take 3) ++ vi (((row L j).drop 3).map (tv (ip L (zs.map (·.2))))) = vi ((row L j).take 3 ++ ((row L j).drop 3).map (tv (ip L (zs.map (·.2))))) := by unfold vi; rw [List.map_append]
          rw [ecat]
          have s14 : Same (upd H12 l2 (.lst (vi ((row L j).take 3)))) (upd (upd H12 l2 (.lst (vi ((row L j).take 3)))) l3 (.lst (vi ((row L j).take 3 ++ ((row L j).drop 3).map (tv (ip L (zs.map (·.2)))))))) := (Same.refl _).upd_new hl3
          have hl34 : (upd (upd H12 l2 (.lst (vi ((row L j).take 3)))) l3 (.lst (vi ((row L j).take 3 ++ ((row L j).drop 3).map (tv (ip L (zs.map (·.2)))))))) l3 = some (.lst (vi ((row L j).take 3 ++ ((row L j).drop 3).map (tv (ip L (zs.map (·.2))))))) := upd_same
          have hD14 := (s13.trans s14) _ _ hD12
          have s014 := (s011.trans s12).trans (s13.trans s14)
          have s814 := ((s9.trans s10).trans s11).trans (s12.trans (s13.trans s14))
          generalize upd (upd H12 l2 (.lst (vi ((row L j).take 3)))) l3 (.lst (vi ((row L j).take 3 ++ ((row L j).drop 3).map (tv (ip L (zs.map (·.2))))))) = H14 at s14 hl34 hD14 s014 s814 ⊢
          refine ⟨_, rfl, _, rfl, _, rfl, _, rfl, _, _, rfl, rfl, _, rfl, D2, _, rfl, .inl (SqL.of hD14), _, _, rfl, rfl, _, rfl, slice_F n (n + 3 + (vi (((row L j).drop 3).map (tv (ip L (zs.map (·.2)))))).length) (by omega) (by omega) (s014.sqt ho) (by omega) fun t3 H15 s15 ht3 => ?_⟩
          have elen : n + 3 + (vi (((row L j).drop 3).map (tv (ip L (zs.map (·.2)))))).length - n = ln L j := by
            rw [vi_len, List.length_map, List.length_drop]; unfold ln at hj3 ⊢; omega
          rw [elen] at ht3
          refine ⟨t3, _, rfl, .inr ht3, fun l4 hl4 => ?_⟩
          have s16 : Same H15 (upd H15 l4 (.lst (vi ((O.flatten.drop n).take (ln L j))))) := (Same.refl _).upd_new hl4
          refine ⟨di _, di _, dp_h ((s15.trans s16) _ _ hl34), dp_h upd_same, di_shaped _, di_shaped _, _, rfl, ?_⟩
          rw [di_eqv]
          have s816 := s814.trans (s15.trans s16)
          refine ite2 (fun h => ?_) (fun h => ?_)
          · refine q _ false (s08.trans s816) ⟨(fun z => by cases z), fun z => ?_⟩
            exfalso
            have hce := z.2.2.2 (j, n) (List.mem_map_of_mem (f := fun x : Addr × (Nat × Nat) => x.2) hzm)
            exact nb h hce
          · refine ⟨_, _, _, rfl, s816, fun e he => ?_⟩
            rw [List.take_succ, hz, List.map_append] at he
            rcases List.mem_append.mp he with h1 | h1
            · exact hcells e h1
            · have e1 : e = (j, n) := by simpa using h1
              rw [e1]
              exact nb' h
      · rintro σ H9 ⟨x6, x7, x8, rfl, s9, hcells⟩
        rw [List.length_map, List.take_length] at hcells
        exact q _ true (s08.trans s9) ⟨fun _ => ⟨hall, hnew, hroots, hcells⟩, fun _ => rfl⟩
end
end K63

set_option Elab.async false
set_option linter.all false
set_option maxRecDepth 100000
set_option maxHeartbeats 4000000
namespace K63
open PySem PySem.Spec PyProof.Rows L2
theorem sqt_upd {K : PySem.W.Frag} {H : Hp} {a d : Addr} {xs : List V} {kvs : List (Key × V)} {o : HO} (h : SqT K H a xs) (hd : H d = some (.dK kvs)) : SqT K (upd H d o) a xs := by
  rcases h with (h | ⟨u, h⟩) | h
  · exact .inl (.inl (by rw [upd_ne (ne_of h hd (by intro z; cases z))]; exact h))
  · exact .inl (.inr ⟨u, by rw [upd_ne (ne_of h hd (by intro z; cases z))]; exact h⟩)
  · exact .inr h
theorem lock_back {H H' : Hp} {d : Addr} {u : HO} {od : Obj} (s : Same (upd H d (.frz od u)) H') (hd : H d = some u) : Same H (upd H' d u) := fun b o e => by
  by_cases z : b = d
  · subst z; rw [upd_same]; rw [hd] at e; exact e
  · rw [upd_ne z]; exact s b o (by rw [upd_ne z]; exact e)
theorem dgetR {H : Hp} {a : Addr} {ps : List (Int × Int)} {k : Int} (e : Rd H a (.dK (kvi ps))) : DGet H a (.int k) ((ps.lookup k).map V.int) := by
  have h : DGet H a (kV (Sum.inl k : Key)) (valV (kvi ps) (Sum.inl k)) := .inl ⟨kvi ps, Sum.inl k, e, rfl, rfl⟩
  unfold kvi at h
  rw [valV_ip] at h; exact h
theorem kvi_at {L : Rows} {pp : List (Nat × Nat)} {i : Nat} {k : Key} {v : V} (h : (kvi (ip L pp))[i]? = some (k, v)) : ∃ j n, pp[i]? = some (j, n) ∧ k = Sum.inl ((st L j : Nat) : Int) ∧ v = .int ((n : Nat) : Int) := by
  unfold kvi ip at h
  rw [List.getElem?_map, List.getElem?_map] at h
  cases e : pp[i]? with
  | none => rw [e] at h; cases h
  | some u =>
    rw [e] at h
    have e1 := Option.some.inj h
    exact ⟨u.1, u.2, rfl, (congrArg Prod.fst e1).symm, (congrArg Prod.snd e1).symm⟩
theorem kvi_len {L : Rows} {pp : List (Nat × Nat)} : (kvi (ip L pp)).length = pp.length := by unfold kvi ip; simp only [List.length_map]
theorem getD_map {o : Option Int} {z : Int} : (o.map V.int).getD (V.int z) = V.int (o.getD z) := by cases o <;> rfl
theorem pick_tv {ps : List (Int × Int)} {v : Int} : atI [V.int v, V.int (10000 + (ps.lookup (v - 10000)).getD (-1))] (if (decide (v ≥ 10000)) = true then 1 else 0) = some (V.int (tv ps v)) := by
  unfold tv
  by_cases h : v ≥ 10000
  · rw [if_pos (decide_eq_true h), if_neg (by omega)]; rfl
  · rw [if_neg (by simpa using h), if_pos (by omega)]; rfl
def szs (L : Rows) (pp : List (Nat × Nat)) : Nat := (pp.map fun e => ln L e.1).sum
theorem szs_next {L : Rows} {pp : List (Nat × Nat)} {i j n : Nat} (h : pp[i]? = some (j, n)) : szs L (pp.take (i + 1)) = szs L (pp.take i) + ln L j := by
  unfold szs
  rw [List.take_succ, h, List.map_append, List.sum_append]
  simp
section
variable {P : Program} {w : World} {K : PySem.W.Frag} {mg : Str → Option Value} {base : Heap} (T : Txt K mg)
include T
theorem ok_law_right : FnOk P w K mg base CX0 2 (He.ga K "_law_right") T.d__law_right ["memory", "roots", "other", "behind", "paper"] (spJudge K) := by
  have G_law_reach := ok_law_reach (P := P) (w := w) (base := base) T
  refine T.F__law_right.ok sc_law_right (fun vs H Q E h => ?_) (fun cdv A outer s H vs Q E hr h => ?_)
  · obtain ⟨a, b, o, bh, pa, L, O, roots, bhv, pp, rfl, _⟩ := h; rfl
  · obtain ⟨a, b, o, bh, pa, L, O, roots, bhv, pp, rfl, p, ha, hb, ho, hbh, hbl, ⟨zs, rfl, hpa, hzs⟩, q⟩ := h
    refine ⟨_, PSs.nox (pss_cons (ps_set (i := 5) sc_law_right.nd rfl (.inr rfl) pe_dnewK)
    (pss_cons (ps_for PassesOwn.never rfl (pi_tup (pv 4)) (pg_tup rfl (pgs_cons (pg_name (i := 6) sc_law_right.nd rfl (.inl rfl)) (pgs_cons (pg_name (i := 7) sc_law_right.nd rfl (.inl rfl)) pgs_nil)))
    (pss_cons (ps_if (pt_cmp (pc_din (hu_of hr) (pv 6) (pv 5)))
    (pss_one (ps_ret pe_bl))
    pss_nil)
    (pss_one (ps_dput (hu_of hr) (pv 5) (pv 6) (pv 7) rfl))))
    (pss_cons (ps_if (pt_cmpR (op_neD hr.units) (pe_callB (call_sortedDI rfl) (by rfl) T.sorted (by decide +kernel) (pa_cons (pv 5) pa_nil)) (pe_call G_law_reach hr (by rfl) T.g__law_reach T.F__law_reach.kp T.b__law_reach .nil pass0 (pa_cons (pv 0) (pa_cons (pv 1) pa_nil))) (nomark _))
    (pss_one (ps_ret pe_bl))
    pss_nil)
    (pss_cons (ps_set (i := 8) sc_law_right.nd rfl (.inl rfl) pe_int)
    (pss_cons (ps_lock (ps_for PassesOwn.never rfl (pi_keys (pv 5)) (pg_name (i := 6) sc_law_right.nd rfl (.inl rfl))
    (pss_one (ps_set (i := 8) sc_law_right.nd rfl (.inl rfl) (pe_op op_add (pe_op op_add (pv 8) pe_int) (pe_ix ix_tup (pv 0) (pe_op op_add (pv 6) pe_int) (fun _ _ => rfl)))))))
    (pss_cons (ps_set (i := 9) sc_law_right.nd rfl (.inl rfl) (pe_lst pa_nil))
    (pss_cons (ps_set (i := 10) sc_law_right.nd rfl (.inl rfl) pe_int)
    (pss_cons (ps_while PassesOwn.never (pt_cmpR op_lt (pv 10) (pe_callB call_len_seq (by rfl) T.len (by decide +kernel) (pa_cons (pv 2) pa_nil)) (nomark _))
    (pss_cons (ps_expr (pe_bm PySem.F.plainAttrs_list PySem.F.slot_list_append PySem.F.type_list_append mt_append (pv 9) (pa_cons (pv 10) pa_nil)))
    (pss_cons (ps_if (pt_cmpR op_ge (pe_op op_add (pv 10) pe_int) (pe_callB call_len_seq (by rfl) T.len (by decide +kernel) (pa_cons (pv 2) pa_nil)) (nomark _))
    (pss_one (ps_ret pe_bl))
    pss_nil)
    (pss_one (ps_set (i := 10) sc_law_right.nd rfl (.inl rfl) (pe_op op_add (pe_op op_add (pv 10) pe_int) (pe_ix ix_tup (pv 2) (pe_op op_add (pv 10) pe_int) (fun _ _ => rfl))))))))
    (pss_cons (ps_if (PW.pt (pw_or (pt_cmpR (op_neD hr.units) (pe_callB cr_sortedI (by rfl) T.sorted (by decide +kernel) (pa_cons (pe_lock (pe_lc (own := [("old", 6)]) (g := gName 6) (tt := tYes) (by rfl) sc_law_right.nd (pi_keys (pv 5)) (blkOk_by (own := [("old", 6)]) (N := ["memory", "roots", "other", "behind", "paper", "moved", "old", "new", "size", "starts", "at", "many", "items", "value"]) (sc := defScope s_law_right) (by decide +kernel)) (fun _ _ _ _ _ => (pg_name (i := 6) sc_law_right.nd rfl (.inl rfl))) (fun _ _ _ _ _ => pts_nil) (fun _ _ _ _ _ => (pe_dget (hu_of hr) (pv 5) (pv 6) (fun _ _ => rfl))))) pa_nil)) (pv 9) (nomark _)) (pw_or (pt_cmpR op_ne (pv 10) (pe_callB call_len_seq (by rfl) T.len (by decide +kernel) (pa_cons (pv 2) pa_nil)) (nomark _)) (pw_or1 (pt_cmpR op_ne (pv 8) (pe_callB call_len_seq (by rfl) T.len (by decide +kernel) (pa_cons (pv 2) pa_nil)) (nomark _))))))
    (pss_one (ps_ret pe_bl))
    pss_nil)
    (pss_cons (ps_lock (ps_for PassesOwn.never rfl (pi_keys (pv 5)) (pg_name (i := 6) sc_law_right.nd rfl (.inl rfl))
    (pss_cons (ps_set (i := 11) sc_law_right.nd rfl (.inl rfl) (pe_ix ix_tup (pv 0) (pe_op op_add (pv 6) pe_int) (fun _ _ => rfl)))
    (pss_cons (ps_setLc (i := 12) (own := [("value", 13)]) (g := gName 13) (tt := tYes) (by rfl) sc_law_right.nd rfl rfl (sw_true rfl rfl rfl (by decide +kernel)) (pi_tup (pe_slice sl_tupF (pv 0) (po_some (pe_op op_add (pv 6) pe_int)) (po_some (pe_op op_add (pe_op op_add (pv 6) pe_int) (pv 11))))) (blkOk_by (own := [("value", 13)]) (N := ["memory", "roots", "other", "behind", "paper", "moved", "old", "new", "size", "starts", "at", "many", "items", "value"]) (sc := defScope s_law_right) (by decide +kernel)) (fun _ _ _ _ _ => (pg_name (i := 13) sc_law_right.nd rfl (.inl rfl))) (fun _ _ _ _ _ => pts_nil) (fun _ _ _ _ _ => (pe_ix (r := rIxL K) ix_list (pe_lst (pa_cons (pv 13) (pa_cons (pe_op op_add pe_int (pe_dget2 (hu_of hr) (pv 5) (pe_op op_sub (pv 13) pe_int) (pe_un un_neg pe_int) ⟨rfl, rfl, rfl, rfl⟩)) pa_nil))) (pe_callTy call_int1 (by rfl) T.int (by decide +kernel) (pa_cons (pe_cmpR op_ge (pv 13) pe_int (nomark _)) pa_nil)) (fun _ _ => rfl))))
    (pss_cons (ps_set (i := 7) sc_law_right.nd rfl (.inl rfl) (pe_dget (hu_of hr) (pv 5) (pv 6) (fun _ _ => rfl)))
    (pss_one (ps_if (pt_cmpR (op_neD hr.units) (pe_callTy call_list_of (by rfl) T.list (by decide +kernel) (pa_cons (pe_slice sl_tupF (pv 2) (po_some (pv 7)) (po_some (pe_op op_add (pe_op op_add (pv 7) pe_int) (pv 11)))) pa_nil)) (pe_op op_cat (pe_callTy call_list_of (by rfl) T.list (by decide +kernel) (pa_cons (pe_slice sl_tupF (pv 0) (po_some (pv 6)) (po_some (pe_op op_add (pv 6) pe_int))) pa_nil)) (pv 12)) (nomark _))
    (pss_one (ps_ret pe_bl))
    pss_nil)))))))
    (pss_one (ps_ret (pe_cmpR (op_eqD hr.units) (pe_lc (own := [("value", 13)]) (g := gName 13) (tt := tYes) (by rfl) sc_law_right.nd (pi_tup (pv 1)) (blkOk_by (own := [("value", 13)]) (N := ["memory", "roots", "other", "behind", "paper", "moved", "old", "new", "size", "starts", "at", "many", "items", "value"]) (sc := defScope s_law_right) (by decide +kernel)) (fun _ _ _ _ _ => (pg_name (i := 13) sc_law_right.nd rfl (.inl rfl))) (fun _ _ _ _ _ => pts_nil) (fun _ _ _ _ _ => (pe_ix (r := rIxL K) ix_list (pe_lst (pa_cons (pv 13) (pa_cons (pe_op op_add pe_int (pe_dget2 (hu_of hr) (pv 5) (pe_op op_sub (pv 13) pe_int) (pe_un un_neg pe_int) ⟨rfl, rfl, rfl, rfl⟩)) pa_nil))) (pe_callTy call_int1 (by rfl) T.int (by decide +kernel) (pa_cons (pe_cmpR op_ge (pv 13) pe_int (nomark _)) pa_nil)) (fun _ _ => rfl)))) (pe_callTy call_list_of (by rfl) T.list (by decide +kernel) (pa_cons (pv 3) pa_nil)) (nomark _)))))))))))))), ?_⟩
    have hzlen : zs.length ≤ 8 := by
      have h := List.Nodup.length_le_of_subset (l₂ := List.range L.length) p.nd fun j hj => by
        obtain ⟨e, he, rfl⟩ := List.mem_map.mp hj
        exact List.mem_range.mpr (p.rc e he).lt
      rw [List.length_range, List.length_map, List.length_map] at h
      exact Nat.le_trans h p.wL.many
    refine fun d hd => ?_
    have s1 : Same H (upd H d (.dK [])) := (Same.refl H).upd_new hd
    refine ⟨_, rfl, pa, rfl, ⟨_, (hpa.same s1).sq⟩, ?_⟩
    refine for_tup (K := K) (a := pa) (xs := zs.map fun z => V.ref z.1) (fun i σ H' => ∃ x6 x7 : Option V, σ = [some (.ref a), some (.ref b), some (.ref o), some (.ref bh), some (.ref pa), some (.ref d), x6, x7, none, none, none, none, none, none] ∧ Same H H' ∧ H' d = some (.dK (kvi (ip L ((zs.take i).map (·.2))))))
      ⟨none, none, rfl, s1, upd_same⟩ (fun i σ H' _ ⟨_, _, _, s2, _⟩ => (hpa.same s2).sq) ?_ ?_
    · rintro i y σ H2 hi ⟨x6, x7, rfl, s2, hd2⟩
      obtain ⟨z, hz, rfl⟩ : ∃ z, zs[i]? = some z ∧ y = V.ref z.1 := by
        rw [List.getElem?_map] at hi
        cases e : zs[i]? with
        | none => rw [e] at hi; cases hi
        | some z => rw [e] at hi; exact ⟨z, rfl, (Option.some.inj hi).symm⟩
      have hzm : z ∈ zs := List.mem_of_getElem? hz
      obtain ⟨zp, j, n⟩ := z
      have hq : SqT K H zp [.int ((st L j : Nat) : Int), .int ((n : Nat) : Int)] := hzs _ hzm
      have hno : (ip L ((zs.take i).map (·.2))).lookup ((st L j : Nat) : Int) = none := by
        rw [List.lookup_eq_none_iff]
        intro e he
        obtain ⟨f, hf, rfl⟩ := List.mem_map.mp he
        obtain ⟨g, hg, rfl⟩ := List.mem_map.mp hf
        simp only [bne_iff_ne, ne_eq]
        intro z'
        have hgm : g ∈ zs := List.mem_of_mem_take hg
        have e1 : j = g.2.1 := st_inj p.wL (p.rc (j, n) (List.mem_map_of_mem (f := fun x : Addr × (Nat × Nat) => x.2) hzm)).lt (p.rc g.2 (List.mem_map_of_mem (f := fun x : Addr × (Nat × Nat) => x.2) hgm)).lt (by omega)
        obtain ⟨k, hk⟩ := List.mem_iff_getElem?.mp hg
        have hki : k < i := by
          have h1 := (List.getElem?_eq_some_iff.mp hk).1
          rw [List.length_take] at h1; omega
        rw [List.getElem?_take_of_lt hki] at hk
        have nd := p.nd
        have a1 : ((zs.map (·.2)).map (·.1))[i]? = some j := by rw [List.getElem?_map, List.getElem?_map, hz]; rfl
        have a2 : ((zs.map (·.2)).map (·.1))[k]? = some j := by rw [List.getElem?_map, List.getElem?_map, hk, e1]; rfl
        have := (List.getElem?_inj (List.getElem?_eq_some_iff.mp a2).1 nd).mp (a2.trans a1.symm)
        omega
      have hg : DGet H2 d (.int ((st L j : Nat) : Int)) none := by
        have g := dgetR (k := ((st L j : Nat) : Int)) (Rd.of hd2)
        rw [hno] at g; exact g
      refine ⟨zp, _, rfl, s2.sqt hq, rfl, _, _, rfl, _, _, rfl, rfl, _, rfl, _, rfl, d, _, rfl, hg, _, rfl, ?_⟩
      refine ite2 (fun h => by cases h) (fun _ => ?_)
      refine ⟨_, rfl, _, rfl, _, rfl, d, _, rfl, DPut.k (k := Sum.inl ((st L j : Nat) : Int)) hd2 (small1000 (by unfold kvi ip; simp only [List.length_map, List.length_take]; omega)), ?_⟩
      refine ⟨_, _, rfl, s2.upd_new hd, ?_⟩
      rw [upd_same]
      have enew : valV (kvi (ip L ((zs.take i).map (·.2)))) (Sum.inl ((st L j : Nat) : Int)) = none := by unfold kvi; rw [valV_ip, hno]; rfl
      rw [putK_new _ enew, List.take_succ, hz]
      unfold kvi ip
      simp
    · rintro σ H3 ⟨x6, x7, rfl, s3, hd3⟩
      rw [List.length_map, List.take_length] at hd3
      refine ⟨_, rfl, d, _, (zs.map (·.2)).map (fun e => ((st L e.1 : Nat) : Int)), rfl, Rd.of hd3, ip_keys, by rw [List.length_map, List.length_map]; omega, fun ys ya hp hs hya => ?_⟩
      have s4 : Same H3 (upd H3 ya (.lst (vi ys))) := (Same.refl H3).upd_new hya
      have hya2 : (upd H3 ya (.lst (vi ys))) ya = some (.lst (vi ys)) := upd_same
      refine ⟨_, rfl, _, rfl, a, b, L, roots, rfl, p.wL, (s3.trans s4).sqt ha, (s3.trans s4).sqt hb, p.ro, p.few, fun H5 ra rs s5 hR hra => ?_⟩
      have s05 := s3.trans (s4.trans s5)
      have hd5 := (s4.trans s5) _ _ hd3
      refine ⟨di ys, di rs, dp_h (s5 _ _ hya2), dp_h hra, di_shaped _, di_shaped _, _, rfl, ?_⟩
      rw [di_eqv]
      refine ite2 (fun h => ?_) (fun h => ?_)
      · exact q H5 false s05 ⟨(fun z => by cases z), fun z => absurd ((all_iff p hp hs hR).mpr z.1) (nb h)⟩
      have hall : All L roots (zs.map (·.2)) := (all_iff p hp hs hR).mp (nb' h)
      -- the size
      refine ⟨d, _, hd5, trivial, fun od => ?_⟩
      have hL := fun {x : Addr} {xs : List V} (h : SqT K H x xs) => sqt_upd (o := .frz od (.dK (kvi (ip L (zs.map (·.2)))))) (s05.sqt h) hd5
      have hdl : (upd H5 d (.frz od (.dK (kvi (ip L (zs.map (·.2))))))) d = some (.frz od (.dK (kvi (ip L (zs.map (·.2)))))) := upd_same
      refine ⟨_, rfl, d, od, rfl, .inl ⟨_, hdl, ?_⟩⟩
      refine for_it (walk_keys (d := d) (o := od) (kvs := kvi (ip L (zs.map (·.2))))) (fun i σ H' => ∃ x6 : Option V, σ = [some (.ref a), some (.ref b), some (.ref o), some (.ref bh), some (.ref pa), some (.ref d), x6, x7, some (.int ((szs L ((zs.map (·.2)).take i) : Nat) : Int)), none, none, none, none, none] ∧ Same (upd H5 d (.frz od (.dK (kvi (ip L (zs.map (·.2))))))) H')
        ⟨x6, rfl, Same.refl _⟩ (fun i σ H' _ ⟨_, _, s6⟩ => s6 _ _ hdl) ?_ ?_
      · rintro i y σ H6 H7 hi ⟨x6, rfl, s6⟩ ⟨rfl, k, v, hkv, rfl⟩
        obtain ⟨j, n, hjn, rfl, rfl⟩ := kvi_at hkv
        have hj := (p.rc (j, n) (List.mem_of_getElem? hjn)).lt
        have hj3 := p.wL.size j hj
        refine ⟨_, rfl, _, _, rfl, rfl, _, rfl, _, rfl, _, _, rfl, rfl, a, _, _, _, rfl, rfl, s6.sqt (hL ha), vi_at (j := st L j + 2) (flat_third p.wL hj), _, _, rfl, rfl, ?_⟩
        have e : ((szs L ((zs.map (·.2)).take i) : Nat) : Int) + 3 + ((ln L j - 3 : Nat) : Int) = ((szs L ((zs.map (·.2)).take (i + 1)) : Nat) : Int) := by rw [szs_next hjn]; omega
        dsimp only
        rw [e]
        exact ⟨_, rfl, s6⟩
      · rintro σ H6 ⟨x6, rfl, s6⟩
        rw [kvi_len, List.take_length]
        refine ⟨s6 _ _ hdl, ?_⟩
        have s7 : Same H5 (upd H6 d (.dK (kvi (ip L (zs.map (·.2)))))) := lock_back s6 hd5
        have hd7 : (upd H6 d (.dK (kvi (ip L (zs.map (·.2)))))) d = some (.dK (kvi (ip L (zs.map (·.2))))) := upd_same
        have s07 := s05.trans s7
        generalize upd H6 d (.dK (kvi (ip L (zs.map (·.2))))) = H7 at s7 hd7 s07 ⊢
        -- the starts
        refine ⟨Nat.zero_le _, fun l hl => ?_⟩
        have hf := flat_small p.wO
        refine while_by (fun σ H' => ∃ k, k ≤ O.length ∧ σ = [some (.ref a), some (.ref b), some (.ref o), some (.ref bh), some (.ref pa), some (.ref d), x6, x7, some (.int ((szs L (zs.map (·.2)) : Nat) : Int)), some (.ref l), some (.int ((st O k : Nat) : Int)), none, none, none] ∧ Same H7 H' ∧ H' l = some (.lst (vi (pl O (List.range k)))))
          (fun σ _ => match σ[10]? with
            | some (some (V.int a)) => (100 - a).toNat
            | _ => 0) ⟨0, Nat.zero_le _, rfl, fun b o e => by rw [upd_ne (ne_of_none e hl)]; exact e, upd_same⟩ ?_ ?_
        · rintro σ H8 ⟨k, hk, rfl, s8, hl8⟩
          refine ⟨_, rfl, _, rfl, o, _, rfl, .inr ((s07.trans s8).sqt ho), _, _, rfl, rfl, _, rfl, ?_⟩
          rw [vi_len]
          refine ite2 (fun h1 => ?_) (fun h1 => ?_)
          · have h2 : st O k < O.flatten.length := by have := of_decide_eq_true h1; omega
            have hk2 : k < O.length := by
              rcases Nat.lt_or_ge k O.length with h | h
              · exact h
              · rw [show k = O.length by omega, st_full] at h2; omega
            have h3 := p.wO.size k hk2
            have hin := st_in hk2
            have s9 : Same H7 (upd H8 l (.lst (vi (pl O (List.range k)) ++ [V.int ((st O k : Nat) : Int)]))) := s8.upd_new hl
            refine ⟨_, rfl, .inl ⟨rfl, _, SqL.of hl8⟩, _, rfl, l, _, _, rfl, rfl, hl8, small1000 (by rw [vi_len, List.length_map, List.length_range]; have := p.wO.many; omega), ?_⟩
            refine ⟨_, rfl, _, _, rfl, rfl, _, rfl, o, _, rfl, .inr ((s07.trans s9).sqt ho), _, _, rfl, rfl, _, rfl, ?_⟩
            rw [vi_len]
            refine ite2 (fun h4 => ?_) (fun _ => ?_)
            · exfalso
              have := of_decide_eq_true h4
              omega
            refine ⟨_, rfl, _, _, rfl, rfl, _, rfl, _, rfl, _, _, rfl, rfl, o, _, _, _, rfl, rfl, (s07.trans s9).sqt ho, vi_at (j := st O k + 2) (flat_third p.wO hk2), _, _, rfl, rfl, ?_⟩
            have eat : ((st O k : Nat) : Int) + 3 + ((ln O k - 3 : Nat) : Int) = ((st O (k + 1) : Nat) : Int) := by rw [st_succ hk2]; omega
            dsimp only
            rw [eat]
            refine ⟨⟨k + 1, hk2, rfl, s9, ?_⟩, ?_⟩
            · rw [upd_same]
              unfold vi pl
              rw [List.range_succ, List.map_append, List.map_append]; rfl
            · show (100 - ((st O (k + 1) : Nat) : Int)).toNat < (100 - ((st O k : Nat) : Int)).toNat
              rw [st_succ hk2]; omega
          · have h2 : ¬ st O k < O.flatten.length := fun z => h1 (decide_eq_true (by omega))
            have hk2 : k = O.length := by
              rcases Nat.lt_or_ge k O.length with h | h
              · exfalso
                have := st_lt p.wO h (Nat.le_refl _)
                rw [st_full] at this; omega
              · omega
            subst hk2
            have hl8' : H8 l = some (.lst (vi (starts O))) := hl8
            have hd8 := s8 _ _ hd7
            have s08 := s07.trans s8
            refine ⟨d, _, hd8, trivial, fun od2 => ?_⟩
            have hdl2 : (upd H8 d (.frz od2 (.dK (kvi (ip L (zs.map (·.2))))))) d = some (.frz od2 (.dK (kvi (ip L (zs.map (·.2)))))) := upd_same
            refine ⟨_, rfl, d, od2, rfl, .inl ⟨_, hdl2, fun D hD => ?_⟩⟩
            refine lc_it (walk_keys (d := d) (o := od2) (kvs := kvi (ip L (zs.map (·.2))))) (fun i H' => Same (upd H8 d (.frz od2 (.dK (kvi (ip L (zs.map (·.2))))))) H' ∧ H' D = some (.lst (vi (((zs.map (·.2)).take i).map fun e => ((e.2 : Nat) : Int)))))
              ⟨(Same.refl _).upd_new hD, upd_same⟩ (fun i H' _ h => h.1 _ _ hdl2) ?_ ?_
            · rintro i y H9 H10 hi ⟨s9, hD9⟩ ⟨rfl, k, v, hkv, rfl⟩
              obtain ⟨j, n, hjn, rfl, rfl⟩ := kvi_at hkv
              have hjm : (j, n) ∈ zs.map (·.2) := List.mem_of_getElem? hjn
              have hg : DGet H10 d (.int ((st L j : Nat) : Int)) (some (.int ((n : Nat) : Int))) := by
                have g := dgetR (k := ((st L j : Nat) : Int)) (.inr ⟨od2, s9 _ _ hdl2⟩)
                rw [lookup_ip p.wL p.nd (fun e he => (p.rc e he).lt) hjm] at g; exact g
              refine ⟨rfl, _, rfl, _, rfl, d, _, rfl, hg, _, hD9, small1000 (by rw [vi_len, List.length_map, List.length_take, List.length_map]; omega), s9.upd_new hD, ?_⟩
              rw [upd_same, List.take_succ, hjn]
              unfold vi
              simp
            · rintro H9 ⟨s9, hD9⟩
              rw [kvi_len, List.take_length] at hD9
              refine ⟨s9 _ _ hdl2, ?_⟩
              have nDd : D ≠ d := fun z => by rw [z, hdl2] at hD; cases hD
              have s10 : Same H8 (upd H9 d (.dK (kvi (ip L (zs.map (·.2)))))) := lock_back s9 hd8
              have hD10 : (upd H9 d (.dK (kvi (ip L (zs.map (·.2)))))) D = some (.lst (vi ((zs.map (·.2)).map fun e => ((e.2 : Nat) : Int)))) := by rw [upd_ne nDd]; exact hD9
              generalize upd H9 d (.dK (kvi (ip L (zs.map (·.2))))) = H10 at s10 hD10 ⊢
              refine ⟨D, _, rfl, SqL.of hD10, fun ns na hp2 hs2 hna => ?_⟩
              have s11 : Same H10 (upd H10 na (.lst (vi ns))) := (Same.refl _).upd_new hna
              have hna11 : (upd H10 na (.lst (vi ns))) na = some (.lst (vi ns)) := upd_same
              have s811 := s10.trans s11
              have s011 := s08.trans s811
              generalize upd H10 na (.lst (vi ns)) = H11 at s11 hna11 s811 s011 ⊢
              refine ⟨_, rfl, di ns, di (starts O), dp_h hna11, dp_h (s811 _ _ hl8'), di_shaped _, di_shaped _, _, rfl, ?_⟩
              rw [di_eqv]
              refine ite2 (fun h => ?_) (fun h => ?_)
              · refine iteT ?_
                exact q _ false s011 ⟨(fun z => by cases z), fun z => absurd ((news_iff p.wO hp2 hs2).mpr z.2.1) (nb h)⟩
              have hnew := (news_iff p.wO hp2 hs2).mp (nb' h)
              refine ⟨_, rfl, _, rfl, o, _, rfl, .inr (s011.sqt ho), rfl, _, rfl, ?_⟩
              refine ite2 (fun h => ?_) (fun _ => ?_)
              · exfalso
                rw [vi_len, st_full] at h
                simp at h
              refine ⟨_, rfl, _, rfl, o, _, rfl, .inr (s011.sqt ho), rfl, _, rfl, ?_⟩
              have hsz : szs L (zs.map (·.2)) = O.flatten.length := p.size hall hnew
              refine ite2 (fun h => ?_) (fun _ => ?_)
              · exfalso
                rw [vi_len, hsz] at h
                simp at h
              -- the cells
              have hd11 := s811 _ _ hd8
              refine ⟨d, _, hd11, trivial, fun od3 => ?_⟩
              have hdl3 : (upd H11 d (.frz od3 (.dK (kvi (ip L (zs.map (·.2))))))) d = some (.frz od3 (.dK (kvi (ip L (zs.map (·.2)))))) := upd_same
              have hL3 := fun {x : Addr} {xs : List V} (h : SqT K H x xs) => sqt_upd (o := .frz od3 (.dK (kvi (ip L (zs.map (·.2)))))) (s011.sqt h) hd11
              refine ⟨_, rfl, d, od3, rfl, .inl ⟨_, hdl3, ?_⟩⟩
              refine for_it (walk_keys (d := d) (o := od3) (kvs := kvi (ip L (zs.map (·.2))))) (fun i σ H' => ∃ x6 x7 x11 x12 : Option V, σ = [some (.ref a), some (.ref b), some (.ref o), some (.ref bh), some (.ref pa), some (.ref d), x6, x7, some (.int ((szs L (zs.map (·.2)) : Nat) : Int)), some (.ref l), some (.int ((st O O.length : Nat) : Int)), x11, x12, none] ∧ Same (upd H11 d (.frz od3 (.dK (kvi (ip L (zs.map (·.2))))))) H' ∧ ∀ e ∈ (zs.map (·.2)).take i, CellEq L O (zs.map (·.2)) e)
                ⟨_, _, _, _, rfl, Same.refl _, by simp⟩ (fun i σ H' _ ⟨_, _, _, _, _, s, _⟩ => s _ _ hdl3) ?_ ?_
              · rintro i y σ H12 H13 hi ⟨x6, x7, x11, x12, rfl, s12, hcells⟩ ⟨rfl, k, v, hkv, rfl⟩
                obtain ⟨j, n, hjn, rfl, rfl⟩ := kvi_at hkv
                have hjm : (j, n) ∈ zs.map (·.2) := List.mem_of_getElem? hjn
                have hrc : Rc L roots j := p.rc (j, n) hjm
                have hj := hrc.lt
                have hj3 := p.wL.size j hj
                have hg : DGet H13 d (.int ((st L j : Nat) : Int)) (some (.int ((n : Nat) : Int))) := by
                  have g := dgetR (k := ((st L j : Nat) : Int)) (.inr ⟨od3, s12 _ _ hdl3⟩)
                  rw [lookup_ip p.wL p.nd (fun e he => (p.rc e he).lt) hjm] at g; exact g
                have ha13 := s12.sqt (hL3 ha)
                refine ⟨_, rfl, _, rfl, _, _, rfl, rfl, a, _, _, _, rfl, rfl, ha13, vi_at (j := st L j + 2) (flat_third p.wL hj), ?_⟩
                refine ⟨_, rfl, _, rfl, _, _, rfl, rfl, _, rfl, _, rfl, _, _, rfl, rfl, _, rfl, _, _, rfl, rfl, _, rfl, slice_F (st L j + 3) (st L j + 3 + (ln L j - 3)) (by omega) (by omega) ha13 (by omega) fun t H14 s14 ht => ?_⟩
                have ecut : (L.flatten.drop (st L j + 3)).take (st L j + 3 + (ln L j - 3) - (st L j + 3)) = (row L j).drop 3 := by
                  rw [show st L j + 3 + (ln L j - 3) - (st L j + 3) = ln L j - 3 by omega, flat_cut hj (by omega)]
                  exact List.take_of_length_le (by rw [List.length_drop]; exact Nat.le_refl _)
                rw [ecut] at ht
                refine ⟨t, rfl, ⟨_, ht⟩, fun D2 hD2 => ?_⟩
                refine lc_tup (xs := vi ((row L j).drop 3)) (LcP H14 D2 ((row L j).drop 3) (fun v => some (tv (ip L (zs.map (·.2))) v))) (LcP.zero hD2) (fun i H' _ h => h.1.sqt ht) ?_ ?_
                · rintro i y H' hi hP
                  obtain ⟨v, rfl, hv, hm⟩ := vi_of hi
                  have hdr : Rd H' d (.dK (kvi (ip L (zs.map (·.2))))) := .inr ⟨od3, hP.1 _ _ (s14 _ _ (s12 _ _ hdl3))⟩
                  refine ⟨rfl, _, rfl, _, rfl, d, rfl, .inl ⟨_, hdr⟩, _, rfl, _, _, rfl, rfl, 1, rfl, _, dgetR hdr, _, _, rfl, getD_map, (by show 2 ≤ sizeLine; decide), fun l2 hl2 => ?_⟩
                  refine ⟨_, rfl, _, _, rfl, rfl, .inr ⟨_, rfl, ?_⟩⟩
                  refine ⟨l2, _, _, _, rfl, rfl, SqL.of upd_same, pick_tv, ?_⟩
                  exact hP.yes hv ((Same.refl _).upd_new hl2) rfl hD2 (by rw [List.length_drop]; unfold ln at hj3; omega)
                · rintro H15 hP
                  obtain ⟨s15, hD15⟩ := hP.all
                  rw [fm_some] at hD15
                  have s1215 := s12.trans (s14.trans s15)
                  have hg15 : DGet H15 d (.int ((st L j : Nat) : Int)) (some (.int ((n : Nat) : Int))) := by
                    have g := dgetR (k := ((st L j : Nat) : Int)) (.inr ⟨od3, s1215 _ _ hdl3⟩)
                    rw [lookup_ip p.wL p.nd (fun e he => (p.rc e he).lt) hjm] at g; exact g
                  refine ⟨_, rfl, _, rfl, d, _, rfl, hg15, ?_⟩
                  have ho15 := s1215.sqt (hL3 ho)
                  refine ⟨_, rfl, _, rfl, _, rfl, _, rfl, _, _, rfl, rfl, _, rfl, _, _, rfl, rfl, _, rfl, slice_F n (n + 3 + (ln L j - 3)) (by omega) (by omega) ho15 (by omega) fun t3 H16 s16 ht3 => ?_⟩
                  have elen : n + 3 + (ln L j - 3) - n = ln L j := by omega
                  rw [elen] at ht3
                  refine ⟨t3, _, rfl, .inr ht3, fun l4 hl4 => ?_⟩
                  have s17 : Same H16 (upd H16 l4 (.lst (vi ((O.flatten.drop n).take (ln L j))))) := (Same.refl _).upd_new hl4
                  have hl417 : (upd H16 l4 (.lst (vi ((O.flatten.drop n).take (ln L j))))) l4 = some (.lst (vi ((O.flatten.drop n).take (ln L j)))) := upd_same
                  have s1217 := s1215.trans (s16.trans s17)
                  have hD17 := (s16.trans s17) _ _ hD15
                  generalize upd H16 l4 (.lst (vi ((O.flatten.drop n).take (ln L j)))) = H17 at s17 hl417 s1217 hD17 ⊢
                  refine ⟨_, rfl, _, rfl, _, rfl, _, rfl, _, _, rfl, rfl, _, rfl, slice_F (st L j) (st L j + 3) (by omega) (by omega) (s1217.sqt (hL3 ha)) (by omega) fun t2 H18 s18 ht2 => ?_⟩
                  have ecut2 : (L.flatten.drop (st L j)).take (st L j + 3 - st L j) = (row L j).take 3 := by
                    have e := flat_cut (L := L) (j := j) (a := 0) (n := 3) hj (by omega)
                    rw [Nat.add_zero, List.drop_zero] at e
                    rw [Nat.add_sub_cancel_left]; exact e
                  rw [ecut2] at ht2
                  refine ⟨t2, _, rfl, .inr ht2, fun l2 hl2 => ?_⟩
                  have s19 : Same H18 (upd H18 l2 (.lst (vi ((row L j).take 3)))) := (Same.refl _).upd_new hl2
                  have hD19 := (s18.trans s19) _ _ hD17
                  refine ⟨_, rfl, l2, D2, _, _, rfl, rfl, upd_same, hD19, Nat.le_of_lt (small1000 (by rw [vi_len, vi_len, List.length_take, List.length_map, List.length_drop]; unfold ln at hj3; omega)), fun l3 hl3 => ?_⟩
                  have ecat : vi ((row L j).take 3) ++ vi (((row L j).drop 3).map (tv (ip L (zs.map (·.2))))) = vi ((row L j).take 3 ++ ((row L j).drop 3).map (tv (ip L (zs.map (·.2))))) := by unfold vi; rw [List.map_append]
                  rw [ecat]
                  have s20 : Same (upd H18 l2 (.lst (vi ((row L j).take 3)))) (upd (upd H18 l2 (.lst (vi ((row L j).take 3)))) l3 (.lst (vi ((row L j).take 3 ++ ((row L j).drop 3).map (tv (ip L (zs.map (·.2)))))))) := (Same.refl _).upd_new hl3
                  have s1220 := s1217.trans (s18.trans (s19.trans s20))
                  refine ⟨di _, di _, dp_h ((s18.trans (s19.trans s20)) _ _ hl417), dp_h upd_same, di_shaped _, di_shaped _, _, rfl, ?_⟩
                  rw [di_eqv]
                  refine ite2 (fun h => ?_) (fun h => ?_)
                  · refine ⟨s1220 _ _ hdl3, ?_⟩
                    refine q _ false (s011.trans (lock_back s1220 hd11)) ⟨(fun z => by cases z), fun z => ?_⟩
                    exfalso
                    exact nb h (z.2.2.2 (j, n) hjm).symm
                  · refine ⟨_, _, _, _, rfl, s1220, fun e he => ?_⟩
                    rw [List.take_succ, hjn] at he
                    rcases List.mem_append.mp he with h1 | h1
                    · exact hcells e h1
                    · have e1 : e = (j, n) := by simpa using h1
                      rw [e1]
                      exact (nb' h).symm
              · rintro σ H12 ⟨x6, x7, x11, x12, rfl, s12, hcells⟩
                rw [kvi_len, List.take_length] at hcells
                refine ⟨s12 _ _ hdl3, ?_⟩
                have s13 : Same H11 (upd H12 d (.dK (kvi (ip L (zs.map (·.2)))))) := lock_back s12 hd11
                have hd13 : (upd H12 d (.dK (kvi (ip L (zs.map (·.2)))))) d = some (.dK (kvi (ip L (zs.map (·.2))))) := upd_same
                have s013 := s011.trans s13
                generalize upd H12 d (.dK (kvi (ip L (zs.map (·.2))))) = H13 at s13 hd13 s013 ⊢
                have hb13 := s013.sqt hb
                refine ⟨_, rfl, b, rfl, ⟨_, hb13⟩, fun D2 hD2 => ?_⟩
                refine lc_tup (xs := vi roots) (LcP H13 D2 roots (fun v => some (tv (ip L (zs.map (·.2))) v))) (LcP.zero hD2) (fun i H' _ h => h.1.sqt hb13) ?_ ?_
                · rintro i y H' hi hP
                  obtain ⟨v, rfl, hv, hm⟩ := vi_of hi
                  have hdr : Rd H' d (.dK (kvi (ip L (zs.map (·.2))))) := .inl (hP.1 _ _ hd13)
                  refine ⟨rfl, _, rfl, _, rfl, d, rfl, .inl ⟨_, hdr⟩, _, rfl, _, _, rfl, rfl, 1, rfl, _, dgetR hdr, _, _, rfl, getD_map, (by show 2 ≤ sizeLine; decide), fun l2 hl2 => ?_⟩
                  refine ⟨_, rfl, _, _, rfl, rfl, .inr ⟨_, rfl, ?_⟩⟩
                  refine ⟨l2, _, _, _, rfl, rfl, SqL.of upd_same, pick_tv, ?_⟩
                  exact hP.yes hv ((Same.refl _).upd_new hl2) rfl hD2 (by have := p.few; omega)
                · rintro H14 hP
                  obtain ⟨s14, hD14⟩ := hP.all
                  rw [fm_some] at hD14
                  refine ⟨_, rfl, bh, _, rfl, .inr ((s013.trans s14).sqt hbh), fun la hla => ?_⟩
                  have s15 : Same H14 (upd H14 la (.lst (vi bhv))) := (Same.refl _).upd_new hla
                  refine ⟨di _, di _, dp_h (s15 _ _ hD14), dp_h upd_same, di_shaped _, di_shaped _, ?_⟩
                  rw [di_eqv]
                  refine q _ _ ((s013.trans s14).trans s15) ⟨fun z => ⟨hall, hnew, of_decide_eq_true z, hcells⟩, fun z => decide_eq_true z.2.2.1⟩
        · rintro σ H Q Q' hm ⟨x, hx, y, hy, l, ys, e6, e7, i, j, e8, e9, k, e10, q⟩
          exact ⟨x, hx, y, hy, l, ys, e6, e7, i, j, e8, e9, k, e10, hm _ _ q⟩
end
end K63

set_option Elab.async false
set_option linter.all false
set_option maxRecDepth 100000
set_option maxHeartbeats 4000000
namespace K63
open PySem PySem.Spec PyProof.Rows L2
def spKindI : Sp := fun vs H Q _ => ∃ i : Int, vs = [.int i] ∧ Q (.int 2) H
def spKindT (K : PySem.W.Frag) : Sp := fun vs H Q _ => ∃ a : Addr, vs = [.ref a] ∧ TyX K H (.ref a) (.type "tuple") ∧ Q (.int 4) H
def spEqI : Sp := fun vs H Q _ => ∃ i : Int, vs = [.int i, .int i] ∧ Q (.bl true) H
def spEqT (K : PySem.W.Frag) : Sp := fun vs H Q _ => ∃ (a : Addr) (ns : List Int), vs = [.ref a, .ref a] ∧ TyX K H (.ref a) (.type "tuple") ∧ SqT K H a (vi ns) ∧ ns.length ≤ 1000 ∧ Q (.bl true) H
def spIs : Sp := fun vs H Q _ => ∃ b : Bool, vs = [.bl b, .bl b] ∧ Q (.bl true) H
def spUp (K : PySem.W.Frag) : Sp := fun vs H Q _ => ∃ (a : Addr) (L : Rows) (pp : List (Nat × Nat)), vs = [.ref a] ∧ Paper K L H a pp ∧ pp.length ≤ 8 ∧ (pp.map fun e => ((st L e.1 : Nat) : Int)).Pairwise (· < ·) ∧ Q (.bl true) H
section
variable {P : Program} {w : World} {K : PySem.W.Frag} {mg : Str → Option Value} {base : Heap} (T : Txt K mg)
include T
theorem ok_kindI : FnOk P w K mg base CX0 1 (He.ga K "_law_kind") T.d__law_kind ["x"] spKindI := by
  refine T.F__law_kind.ok sc_law_kind (fun vs H Q E h => ?_) (fun cdv A outer s H vs Q E hr h => ?_)
  · obtain ⟨i, rfl, _⟩ := h; rfl
  · obtain ⟨i, rfl, q⟩ := h
    refine ⟨_, PSs.nox (pss_cons (ps_if (pt_val (pe_callB call_isi (by rfl) T.isinstance (by decide +kernel) (pa_cons (pv 0) (pa_cons (pe_bltn (v := .ty "bool") rfl T.bool (by decide +kernel) rfl) pa_nil))))
    (pss_one (ps_ret pe_int))
    pss_nil)
    (pss_cons (ps_if (pt_val (pe_callB call_isi (by rfl) T.isinstance (by decide +kernel) (pa_cons (pv 0) (pa_cons (pe_bltn (v := .ty "int") rfl T.int (by decide +kernel) rfl) pa_nil))))
    (pss_one (ps_ret pe_int))
    pss_nil)
    (pss_cons (ps_if (pt_val (pe_callB call_isi (by rfl) T.isinstance (by decide +kernel) (pa_cons (pv 0) (pa_cons (pe_bltn (v := .ty "str") rfl T.str (by decide +kernel) rfl) pa_nil))))
    (pss_one (ps_ret pe_int))
    pss_nil)
    (pss_cons (ps_if (pt_val (pe_callB call_isi (by rfl) T.isinstance (by decide +kernel) (pa_cons (pv 0) (pa_cons (pe_bltn (v := .ty "tuple") rfl T.tuple (by decide +kernel) rfl) pa_nil))))
    (pss_one (ps_ret pe_int))
    pss_nil)
    (pss_cons (ps_if (pt_val (pe_callB call_isi (by rfl) T.isinstance (by decide +kernel) (pa_cons (pv 0) (pa_cons (pe_bltn (v := .ty "list") rfl T.list (by decide +kernel) rfl) pa_nil))))
    (pss_one (ps_ret pe_int))
    pss_nil)
    (pss_cons (ps_if (pt_cmpR op_isN (pv 0) pe_non (nomark _))
    (pss_one (ps_ret pe_int))
    pss_nil)
    (pss_one (ps_ret pe_int)))))))), ?_⟩
    refine ⟨_, rfl, _, _, _, _, false, rfl, .ty _, .base (.int i), kit_ty (by decide +kernel), _, rfl, iteF ?_⟩
    exact ⟨_, rfl, _, _, _, _, true, rfl, .ty _, .base (.int i), kit_ty (by decide +kernel), _, rfl, iteT q⟩
theorem ok_kindT : FnOk P w K mg base CX0 1 (He.ga K "_law_kind") T.d__law_kind ["x"] (spKindT K) := by
  refine T.F__law_kind.ok sc_law_kind (fun vs H Q E h => ?_) (fun cdv A outer s H vs Q E hr h => ?_)
  · obtain ⟨i, rfl, _⟩ := h; rfl
  · obtain ⟨a, rfl, ty, q⟩ := h
    refine ⟨_, PSs.nox (pss_cons (ps_if (pt_val (pe_callB call_isi (by rfl) T.isinstance (by decide +kernel) (pa_cons (pv 0) (pa_cons (pe_bltn (v := .ty "bool") rfl T.bool (by decide +kernel) rfl) pa_nil))))
    (pss_one (ps_ret pe_int))
    pss_nil)
    (pss_cons (ps_if (pt_val (pe_callB call_isi (by rfl) T.isinstance (by decide +kernel) (pa_cons (pv 0) (pa_cons (pe_bltn (v := .ty "int") rfl T.int (by decide +kernel) rfl) pa_nil))))
    (pss_one (ps_ret pe_int))
    pss_nil)
    (pss_cons (ps_if (pt_val (pe_callB call_isi (by rfl) T.isinstance (by decide +kernel) (pa_cons (pv 0) (pa_cons (pe_bltn (v := .ty "str") rfl T.str (by decide +kernel) rfl) pa_nil))))
    (pss_one (ps_ret pe_int))
    pss_nil)
    (pss_cons (ps_if (pt_val (pe_callB call_isi (by rfl) T.isinstance (by decide +kernel) (pa_cons (pv 0) (pa_cons (pe_bltn (v := .ty "tuple") rfl T.tuple (by decide +kernel) rfl) pa_nil))))
    (pss_one (ps_ret pe_int))
    pss_nil)
    (pss_cons (ps_if (pt_val (pe_callB call_isi (by rfl) T.isinstance (by decide +kernel) (pa_cons (pv 0) (pa_cons (pe_bltn (v := .ty "list") rfl T.list (by decide +kernel) rfl) pa_nil))))
    (pss_one (ps_ret pe_int))
    pss_nil)
    (pss_cons (ps_if (pt_cmpR op_isN (pv 0) pe_non (nomark _))
    (pss_one (ps_ret pe_int))
    pss_nil)
    (pss_one (ps_ret pe_int)))))))), ?_⟩
    refine ⟨_, rfl, _, _, _, _, false, rfl, .ty _, ty, kit_ty (by decide +kernel), _, rfl, iteF ?_⟩
    refine ⟨_, rfl, _, _, _, _, false, rfl, .ty _, ty, kit_ty (by decide +kernel), _, rfl, iteF ?_⟩
    refine ⟨_, rfl, _, _, _, _, false, rfl, .ty _, ty, kit_ty (by decide +kernel), _, rfl, iteF ?_⟩
    exact ⟨_, rfl, _, _, _, _, true, rfl, .ty _, ty, kit_ty (by decide +kernel), _, rfl, iteT q⟩
theorem ok_is : FnOk P w K mg base CX0 1 (He.ga K "_law_is") T.d__law_is ["x", "due"] spIs := by
  refine T.F__law_is.ok sc_law_is (fun vs H Q E h => ?_) (fun cdv A outer s H vs Q E hr h => ?_)
  · obtain ⟨b, rfl, _⟩ := h; rfl
  · obtain ⟨b, rfl, q⟩ := h
    refine ⟨_, PSs.nox (pss_cons (ps_if (pt_val (pv 1))
    (pss_one (ps_ret (pe_cmpR op_is_bl (pv 0) pe_bl (nomark _))))
    pss_nil)
    (pss_one (ps_ret (pe_cmpR op_is_bl (pv 0) pe_bl (nomark _))))), ?_⟩
    refine ⟨_, rfl, _, rfl, ?_⟩
    cases b with
    | true => exact iteT ⟨_, rfl, _, _, rfl, rfl, q⟩
    | false => exact iteF ⟨_, rfl, _, _, rfl, rfl, q⟩
theorem ok_up : FnOk P w K mg base CX0 1 (He.ga K "_law_up") T.d__law_up ["x"] (spUp K) := by
  refine T.F__law_up.ok sc_law_up (fun vs H Q E h => ?_) (fun cdv A outer s H vs Q E hr h => ?_)
  · obtain ⟨a, L, pp, rfl, _⟩ := h; rfl
  · obtain ⟨a, L, pp, rfl, ⟨zs, rfl, ha, hzs⟩, hl, hp, q⟩ := h
    refine ⟨_, PSs.nox (pss_cons (ps_for PassesOwn.never rfl (pi_range2 (by rfl) T.range (pa_cons pe_int (pa_cons (pe_callB call_len_seq (by rfl) T.len (by decide +kernel) (pa_cons (pv 0) pa_nil)) pa_nil))) (pg_name (i := 1) sc_law_up.nd rfl (.inl rfl))
    (pss_one (ps_if (pt_not (pt_cmpR (op_ltT (Nat.lt_of_succ_lt (hu_of hr))) (pe_ix ix_tup (pv 0) (pe_op op_sub (pv 1) pe_int) (fun _ _ => rfl)) (pe_ix ix_tup (pv 0) (pv 1) (fun _ _ => rfl)) (nomark _)))
    (pss_one (ps_ret pe_bl))
    pss_nil)))
    (pss_one (ps_ret pe_bl))), ?_⟩
    rw [List.length_map] at hl
    refine ⟨_, rfl, a, _, rfl, .inr ha.sq, 1, _, rfl, by rw [List.length_map]; omega, ?_⟩
    refine for_range (lo := 1) (fun i σ H' => ∃ x, σ = [some (.ref a), x] ∧ H' = H) ⟨none, rfl, rfl⟩ ?_ ?_
    · rintro i σ H' hi ⟨x, rfl, rfl⟩
      have hi' : i + 1 < zs.length := by
        have h := hi
        rw [List.length_map] at h
        omega
      obtain ⟨y, hy⟩ : ∃ y, zs[i]? = some y := ⟨_, List.getElem?_eq_getElem (by omega)⟩
      obtain ⟨z, hz⟩ : ∃ z, zs[i + 1]? = some z := ⟨_, List.getElem?_eq_getElem hi'⟩
      have hlt : ((st L y.2.1 : Nat) : Int) < ((st L z.2.1 : Nat) : Int) := by
        have h := List.pairwise_iff_getElem.mp hp i (i + 1) (by simp; omega) (by simp; omega) (by omega)
        have e1 := (List.getElem?_eq_some_iff.mp hy).2
        have e2 := (List.getElem?_eq_some_iff.mp hz).2
        simp only [List.getElem_map, e1, e2] at h
        exact h
      have ei : (1 : Int) + (i : Nat) - 1 = ((i : Nat) : Int) := by omega
      have ei2 : (1 : Int) + (i : Nat) = ((i + 1 : Nat) : Int) := by omega
      have a1 : atI (zs.map fun z => V.ref z.1) ((1 : Int) + (i : Nat) - 1) = some (V.ref y.1) := by rw [ei]; exact atI_nat (by rw [List.getElem?_map, hy]; rfl)
      have a2 : atI (zs.map fun z => V.ref z.1) ((1 : Int) + (i : Nat)) = some (V.ref z.1) := by rw [ei2]; exact atI_nat (by rw [List.getElem?_map, hz]; rfl)
      refine ⟨_, rfl, _, rfl, _, _, rfl, rfl, a, _, _, _, rfl, rfl, ha.sq, a1, _, rfl, _, rfl, a, _, _, _, rfl, rfl, ha.sq, a2, ?_⟩
      refine ⟨y.1, z.1, [((st L y.2.1 : Nat) : Int), ((y.2.2 : Nat) : Int)], [((st L z.2.1 : Nat) : Int), ((z.2.2 : Nat) : Int)], rfl, rfl, hzs y (List.mem_of_getElem? hy), hzs z (List.mem_of_getElem? hz), _, rfl, ?_⟩
      have e : HT.lexLt [((st L y.2.1 : Nat) : Int), ((y.2.2 : Nat) : Int)] [((st L z.2.1 : Nat) : Int), ((z.2.2 : Nat) : Int)] = true := by
        unfold HT.lexLt
        rw [if_neg (by omega)]
        exact decide_eq_true hlt
      rw [e]
      exact iteF ⟨_, rfl, rfl⟩
    · rintro σ H' ⟨x, rfl, rfl⟩
      exact q
end
end K63

set_option Elab.async false
set_option linter.all false
set_option maxRecDepth 100000
set_option maxHeartbeats 4000000
namespace K63
open PySem PySem.Spec PyProof.Rows L2
def spCell (K : PySem.W.Frag) : Sp := fun vs H Q _ => ∃ (a : Addr) (ns : List Int) (k : Nat), vs = [.ref a, .int (k : Nat)] ∧ SqL K H a (vi ns) ∧ ∀ z : Int, Q (.int z) H
def spNums : Sp := fun vs H Q _ => ∃ c : Int, vs = [.int c, .int 24] ∧ ∀ (H' : Hp) (l : Addr) (ns : List Int), Same H H' → H l = none → H' l = some (.lst (vi ns)) → ns.length = 24 → Q (.ref l) H'
def PoolAt (H : Hp) (p c : Addr) (k : Nat) : Prop := ∃ (r : Addr) (ns : List Int), H p = some (.lst [.ref r, .ref c]) ∧ H r = some (.lst (vi ns)) ∧ H c = some (.lst [.int ((k : Nat) : Int)]) ∧ p ≠ c ∧ r ≠ c ∧ 1 ≤ ns.length ∧ ns.length ≤ 1000
def But (c : Addr) (H H' : Hp) : Prop := ∀ a o, a ≠ c → H a = some o → H' a = some o
theorem But.refl (c : Addr) (H : Hp) : But c H H := fun _ _ _ h => h
theorem But.trans {c : Addr} {H H1 H2 : Hp} (a : But c H H1) (b : But c H1 H2) : But c H H2 := fun x o n h => b x o n (a x o n h)
theorem _root_.L2.Same.but {H H' : Hp} (s : Same H H') (c : Addr) : But c H H' := fun a o _ h => s a o h
theorem PoolAt.same {H H' : Hp} {p c : Addr} {k : Nat} (h : PoolAt H p c k) (s : Same H H') : PoolAt H' p c k :=
  let ⟨r, ns, h1, h2, h3, h4⟩ := h; ⟨r, ns, s _ _ h1, s _ _ h2, s _ _ h3, h4⟩
theorem PoolAt.upd {H : Hp} {p c x : Addr} {k : Nat} {o : HO} (h : PoolAt H p c k) (hx : H x = none) : PoolAt (L2.upd H x o) p c k := h.same ((Same.refl H).upd_new hx)
theorem PoolAt.cell {H : Hp} {p c : Addr} {k : Nat} (h : PoolAt H p c k) : ∃ o, H c = some o := let ⟨_, _, _, _, h3, _⟩ := h; ⟨_, h3⟩
def spPool (K : PySem.W.Frag) : Sp := fun vs H Q _ => ∃ (a : Addr) (ns : List Int), vs = [.ref a] ∧ SqL K H a (vi ns) ∧ ns.length ≤ 63 ∧ ∀ (H' : Hp) (p c : Addr), PoolAt H' p c 0 → Q (.ref p) H'
def spDraw : Sp := fun vs H Q _ => ∃ (p c : Addr) (k many : Nat), vs = [.ref p, .int ((many : Nat) : Int)] ∧ PoolAt H p c k ∧ k ≤ 5000 ∧ 1 ≤ many ∧ ∀ (H' : Hp) (r : Nat), r < many → But c H H' → PoolAt H' p c (k + 1) → Q (.int ((r : Nat) : Int)) H'
section
variable {P : Program} {w : World} {K : PySem.W.Frag} {mg : Str → Option Value} {base : Heap} (T : Txt K mg)
include T
theorem ok_equalI : FnOk P w K mg base CX0 2 (He.ga K "_law_equal") T.d__law_equal ["x", "due"] spEqI := by
  have G__law_kind := ok_kindI (P := P) (w := w) (base := base) T
  have G__law_equal : FnOk P w K mg base CX0 1 (He.ga K "_law_equal") T.d__law_equal ["x", "due"] (fun _ _ _ _ => False) := by
    refine T.F__law_equal.ok sc_law_equal (fun vs H Q E h => h.elim) (fun cdv A outer s H vs Q E hr h => h.elim)
  refine T.F__law_equal.ok sc_law_equal (fun vs H Q E h => ?_) (fun cdv A outer s H vs Q E hr h => ?_)
  · obtain ⟨i, rfl, _⟩ := h; rfl
  · obtain ⟨i, rfl, q⟩ := h
    refine ⟨_, PSs.nox (pss_cons (ps_if (PW.pt (pw_or (pt_cmpR op_ne (pe_call G__law_kind hr (by rfl) T.g__law_kind T.F__law_kind.kp T.b__law_kind .nil pass0 (pa_cons (pv 0) pa_nil)) (pe_call G__law_kind hr (by rfl) T.g__law_kind T.F__law_kind.kp T.b__law_kind .nil pass0 (pa_cons (pv 1) pa_nil)) (nomark _)) (pw_or1 (pt_cmpR op_eq (pe_call G__law_kind hr (by rfl) T.g__law_kind T.F__law_kind.kp T.b__law_kind .nil pass0 (pa_cons (pv 0) pa_nil)) pe_int (nomark _)))))
    (pss_one (ps_ret pe_bl))
    pss_nil)
    (pss_cons (ps_if (PW.pt (pw_or (pt_val (pe_callB call_isi (by rfl) T.isinstance (by decide +kernel) (pa_cons (pv 1) (pa_cons (pe_bltn (v := .ty "tuple") rfl T.tuple (by decide +kernel) rfl) pa_nil)))) (pw_or1 (pt_val (pe_callB call_isi (by rfl) T.isinstance (by decide +kernel) (pa_cons (pv 1) (pa_cons (pe_bltn (v := .ty "list") rfl T.list (by decide +kernel) rfl) pa_nil)))))))
    (pss_cons (ps_if (pt_cmpR op_ne (pe_callB call_len_seq (by rfl) T.len (by decide +kernel) (pa_cons (pv 0) pa_nil)) (pe_callB call_len_seq (by rfl) T.len (by decide +kernel) (pa_cons (pv 1) pa_nil)) (nomark _))
    (pss_one (ps_ret pe_bl))
    pss_nil)
    (pss_cons (ps_for PassesOwn.never rfl (pi_range1 (by rfl) T.range (pa_cons (pe_callB call_len_seq (by rfl) T.len (by decide +kernel) (pa_cons (pv 1) pa_nil)) pa_nil)) (pg_name (i := 2) sc_law_equal.nd rfl (.inl rfl))
    (pss_one (ps_if (pt_not (pt_val (pe_call G__law_equal hr (by rfl) T.g__law_equal T.F__law_equal.kp T.b__law_equal .nil pass0 (pa_cons (pe_ix ix_tup (pv 0) (pv 2) (fun _ _ => rfl)) (pa_cons (pe_ix ix_tup (pv 1) (pv 2) (fun _ _ => rfl)) pa_nil)))))
    (pss_one (ps_ret pe_bl))
    pss_nil)))
    (pss_one (ps_ret pe_bl))))
    pss_nil)
    (pss_one (ps_ret (pe_cmpR (op_eqD hr.units) (pv 0) (pv 1) (nomark _)))))), ?_⟩
    refine ⟨_, rfl, _, rfl, _, rfl, _, rfl, rfl, _, rfl, iteNS rfl ⟨_, rfl, _, rfl, rfl, _, rfl, ?_⟩⟩
    refine ite2 (fun h => by cases of_decide_eq_true h) (fun _ => ?_)
    refine ⟨_, rfl, _, _, _, _, false, rfl, .ty _, .base (.int i), kit_ty (by decide +kernel), _, rfl, iteF ?_⟩
    refine ⟨_, rfl, _, _, _, _, false, rfl, .ty _, .base (.int i), kit_ty (by decide +kernel), _, rfl, iteF ?_⟩
    refine ⟨_, rfl, _, rfl, .int i, .int i, .int i, .int i, ?_, ?_, ?_⟩
    · unfold SeqAt.shaped; rw [PyData.canLay0, PyData.depth]; rfl
    · unfold SeqAt.shaped; rw [PyData.canLay0, PyData.depth]; rfl
    · have e : PyData.eqv (.int i) (.int i) = true := by rw [PyData.eqv]; simp
      rw [e]; exact q
theorem ok_equalT : FnOk P w K mg base CX0 3 (He.ga K "_law_equal") T.d__law_equal ["x", "due"] (spEqT K) := by
  have G__law_kind := ok_kindT (P := P) (w := w) (base := base) T
  have G__law_equal := ok_equalI (P := P) (w := w) (base := base) T
  refine T.F__law_equal.ok sc_law_equal (fun vs H Q E h => ?_) (fun cdv A outer s H vs Q E hr h => ?_)
  · obtain ⟨a, ns, rfl, _⟩ := h; rfl
  · obtain ⟨a, ns, rfl, ty, ha, hl, q⟩ := h
    have hr1 : Room 1 _ := hr.mono (by decide)
    refine ⟨_, PSs.nox (pss_cons (ps_if (PW.pt (pw_or (pt_cmpR op_ne (pe_call G__law_kind hr1 (by rfl) T.g__law_kind T.F__law_kind.kp T.b__law_kind .nil pass0 (pa_cons (pv 0) pa_nil)) (pe_call G__law_kind hr1 (by rfl) T.g__law_kind T.F__law_kind.kp T.b__law_kind .nil pass0 (pa_cons (pv 1) pa_nil)) (nomark _)) (pw_or1 (pt_cmpR op_eq (pe_call G__law_kind hr1 (by rfl) T.g__law_kind T.F__law_kind.kp T.b__law_kind .nil pass0 (pa_cons (pv 0) pa_nil)) pe_int (nomark _)))))
    (pss_one (ps_ret pe_bl))
    pss_nil)
    (pss_cons (ps_if (PW.pt (pw_or (pt_val (pe_callB call_isi (by rfl) T.isinstance (by decide +kernel) (pa_cons (pv 1) (pa_cons (pe_bltn (v := .ty "tuple") rfl T.tuple (by decide +kernel) rfl) pa_nil)))) (pw_or1 (pt_val (pe_callB call_isi (by rfl) T.isinstance (by decide +kernel) (pa_cons (pv 1) (pa_cons (pe_bltn (v := .ty "list") rfl T.list (by decide +kernel) rfl) pa_nil)))))))
    (pss_cons (ps_if (pt_cmpR op_ne (pe_callB call_len_seq (by rfl) T.len (by decide +kernel) (pa_cons (pv 0) pa_nil)) (pe_callB call_len_seq (by rfl) T.len (by decide +kernel) (pa_cons (pv 1) pa_nil)) (nomark _))
    (pss_one (ps_ret pe_bl))
    pss_nil)
    (pss_cons (ps_for PassesOwn.never rfl (pi_range1 (by rfl) T.range (pa_cons (pe_callB call_len_seq (by rfl) T.len (by decide +kernel) (pa_cons (pv 1) pa_nil)) pa_nil)) (pg_name (i := 2) sc_law_equal.nd rfl (.inl rfl))
    (pss_one (ps_if (pt_not (pt_val (pe_call G__law_equal hr (by rfl) T.g__law_equal T.F__law_equal.kp T.b__law_equal .nil pass0 (pa_cons (pe_ix ix_tup (pv 0) (pv 2) (fun _ _ => rfl)) (pa_cons (pe_ix ix_tup (pv 1) (pv 2) (fun _ _ => rfl)) pa_nil)))))
    (pss_one (ps_ret pe_bl))
    pss_nil)))
    (pss_one (ps_ret pe_bl))))
    pss_nil)
    (pss_one (ps_ret (pe_cmpR (op_eqD hr.units) (pv 0) (pv 1) (nomark _)))))), ?_⟩
    refine ⟨_, rfl, a, rfl, ty, _, rfl, a, rfl, ty, rfl, _, rfl, iteNS rfl ⟨_, rfl, a, rfl, ty, rfl, _, rfl, ?_⟩⟩
    refine ite2 (fun h => by cases of_decide_eq_true h) (fun _ => ?_)
    refine ⟨_, rfl, _, _, _, _, true, rfl, .ty _, ty, kit_ty (by decide +kernel), _, rfl, iteT (iteT ?_)⟩
    refine ⟨_, rfl, a, _, rfl, .inr ha, _, rfl, a, _, rfl, .inr ha, rfl, _, rfl, iteNS rfl ?_⟩
    refine ⟨_, rfl, a, _, rfl, .inr ha, _, rfl, by rw [vi_len]; omega, by rw [vi_len]; omega, ?_⟩
    refine for_range (lo := 0) (fun i σ H' => ∃ x, σ = [some (.ref a), some (.ref a), x] ∧ H' = H) ⟨none, rfl, rfl⟩ ?_ ?_
    · rintro i σ H' hi ⟨x, rfl, rfl⟩
      have hi' : i < ns.length := by
        have h := hi
        rw [vi_len] at h
        omega
      have ei : (0 : Int) + (i : Nat) = ((i : Nat) : Int) := by omega
      obtain ⟨v, hv⟩ : ∃ v, ns[i]? = some v := ⟨_, List.getElem?_eq_getElem hi'⟩
      have a1 : atI (vi ns) ((0 : Int) + (i : Nat)) = some (V.int v) := by rw [ei]; exact vi_at hv
      exact ⟨_, rfl, _, rfl, a, _, _, _, rfl, rfl, ha, a1, _, rfl, _, rfl, a, _, _, _, rfl, rfl, ha, a1, v, rfl, _, rfl, iteF ⟨_, rfl, rfl⟩⟩
    · rintro σ H' ⟨x, rfl, rfl⟩
      exact q
end
end K63

set_option Elab.async false
set_option linter.all false
set_option maxRecDepth 100000
set_option maxHeartbeats 4000000
namespace K63
open PySem PySem.Spec PyProof.Rows L2
theorem fm_small {a : Int} {b : Int} (h : 0 < b) : 0 ≤ a.fmod b ∧ a.fmod b < b := by
  rw [Int.fmod_eq_emod_of_nonneg a (by omega)]
  exact ⟨Int.emod_nonneg a (by omega), Int.emod_lt_of_pos a h⟩
section
variable {P : Program} {w : World} {K : PySem.W.Frag} {mg : Str → Option Value} {base : Heap} (T : Txt K mg)
include T
theorem ok_cell : FnOk P w K mg base CX0 1 (He.ga K "_law_cell") T.d__law_cell ["script", "k"] (spCell K) := by
  refine T.F__law_cell.ok sc_law_cell (fun vs H Q E h => ?_) (fun cdv A outer s H vs Q E hr h => ?_)
  · obtain ⟨a, ns, k, rfl, _⟩ := h; rfl
  · obtain ⟨a, ns, k, rfl, ha, q⟩ := h
    refine ⟨_, PSs.nox (pss_cons (ps_if (pt_cmpR op_lt (pv 1) (pe_callB call_len_seq (by rfl) T.len (by decide +kernel) (pa_cons (pv 0) pa_nil)) (nomark _))
    (pss_one (ps_ret (pe_ix ix_list (pv 0) (pv 1) (fun _ _ => rfl))))
    pss_nil)
    (pss_one (ps_ret pe_int))), ?_⟩
    refine ⟨_, rfl, _, rfl, a, _, rfl, .inl ha, _, _, rfl, rfl, _, rfl, ?_⟩
    rw [vi_len]
    refine ite2 (fun h => ?_) (fun _ => ?_)
    · have h1 : k < ns.length := by have := of_decide_eq_true h; omega
      exact ⟨_, rfl, _, rfl, a, _, _, _, rfl, rfl, ha, vi_at (List.getElem?_eq_getElem h1), q _⟩
    · exact q _
theorem ok_nums : FnOk P w K mg base CX0 1 (He.ga K "_law_numbers") T.d__law_numbers ["cell", "many"] spNums := by
  refine T.F__law_numbers.ok sc_law_numbers (fun vs H Q E h => ?_) (fun cdv A outer s H vs Q E hr h => ?_)
  · obtain ⟨c, rfl, _⟩ := h; rfl
  · obtain ⟨c, rfl, q⟩ := h
    refine ⟨_, PSs.nox (pss_cons (ps_set (i := 2) sc_law_numbers.nd rfl (.inl rfl) (pe_lst pa_nil))
    (pss_cons (ps_set (i := 3) sc_law_numbers.nd rfl (.inl rfl) (pv 0))
    (pss_cons (ps_for PassesOwn.never rfl (pi_range1 (by rfl) T.range (pa_cons (pv 1) pa_nil)) (pg_name (i := 4) sc_law_numbers.nd rfl (.inl rfl))
    (pss_one (ps_if (PW.pt (pw_and (pt_cmpR op_ge (pv 0) (pe_op op_pow pe_int pe_int) (nomark _)) (pw_and1 (pt_cmpR op_gt (pv 3) pe_int (nomark _)))))
    (pss_cons (ps_expr (pe_bm PySem.F.plainAttrs_list PySem.F.slot_list_append PySem.F.type_list_append mt_append (pv 2) (pa_cons (pe_op op_modN (pe_callTy call_int1 (by rfl) T.int (by decide +kernel) (pa_cons (pv 3) pa_nil)) pe_int) pa_nil)))
    (pss_one (ps_set (i := 3) sc_law_numbers.nd rfl (.inl rfl) (pe_op op_fdivN (pv 3) pe_int))))
    (pss_cons (ps_set (i := 5) sc_law_numbers.nd rfl (.inl rfl) (pe_op op_modN (pe_callTy call_int1 (by rfl) T.int (by decide +kernel) (pa_cons (pe_op op_add (pe_op op_mul (pv 0) pe_int) (pe_op op_mul (pe_op op_add (pv 4) pe_int) pe_int)) pa_nil)) pe_int))
    (pss_cons (ps_set (i := 5) sc_law_numbers.nd rfl (.inl rfl) (pe_op op_modN (pe_callTy call_int1 (by rfl) T.int (by decide +kernel) (pa_cons (pe_op op_add (pe_op op_add (pe_op op_mul (pv 5) (pv 5)) (pe_op op_mul (pv 5) pe_int)) (pe_op op_mul (pv 4) pe_int)) pa_nil)) pe_int))
    (pss_cons (ps_set (i := 5) sc_law_numbers.nd rfl (.inl rfl) (pe_op op_modN (pe_callTy call_int1 (by rfl) T.int (by decide +kernel) (pa_cons (pe_op op_add (pe_op op_add (pe_op op_mul (pv 5) (pv 5)) (pv 0)) (pe_op op_mul pe_int (pv 4))) pa_nil)) pe_int))
    (pss_one (ps_expr (pe_bm PySem.F.plainAttrs_list PySem.F.slot_list_append PySem.F.type_list_append mt_append (pv 2) (pa_cons (pe_op op_modN (pe_op op_fdivN (pv 5) pe_int) pe_int) pa_nil))))))))))
    (pss_one (ps_ret (pv 2)))))), ?_⟩
    refine ⟨Nat.zero_le _, fun l hl => ?_⟩
    refine ⟨_, rfl, _, rfl, 24, rfl, by decide, by decide, ?_⟩
    refine for_range (lo := 0) (n := 24) (fun i σ H' => ∃ (left : Int) (x y : Option V) (ns : List Int), σ = [some (.int c), some (.int 24), some (.ref l), some (.int left), x, y] ∧ Same H H' ∧ H' l = some (.lst (vi ns)) ∧ ns.length = i)
      ⟨c, none, none, [], rfl, (Same.refl H).upd_new hl, upd_same, rfl⟩ ?_ ?_
    · rintro i σ H1 hi ⟨left, x, y, ns, rfl, s1, hl1, hn⟩
      have app : ∀ (v : Int) (σ : L2.St) (left : Int) (x y : Option V), σ = [some (.int c), some (.int 24), some (.ref l), some (.int left), x, y] →
          ∃ (left : Int) (x y : Option V) (ns' : List Int), σ = [some (.int c), some (.int 24), some (.ref l), some (.int left), x, y] ∧ Same H (upd H1 l (.lst (vi ns ++ [V.int v]))) ∧ (upd H1 l (.lst (vi ns ++ [V.int v]))) l = some (.lst (vi ns')) ∧ ns'.length = i + 1 := fun v σ left x y e =>
        ⟨left, x, y, ns ++ [v], e, s1.upd_new hl, by rw [upd_same]; unfold vi; rw [List.map_append]; rfl, by rw [List.length_append, hn]; rfl⟩
      have hsz : (vi ns).length < sizeLine := small1000 (by rw [vi_len]; omega)
      have other : ∀ (Q' : Prop), Q' → Q' := fun _ z => z
      have b1 : ∀ z : Int, z.fmod 2147483647 < 2 ^ 64 ∧ -(2 ^ 64) < z.fmod 2147483647 := fun z => by have := fm_small (a := z) (b := 2147483647) (by decide); omega
      have b2 : ∀ z : Int, z.fmod 2147483629 < 2 ^ 64 ∧ -(2 ^ 64) < z.fmod 2147483629 := fun z => by have := fm_small (a := z) (b := 2147483629) (by decide); omega
      refine ⟨_, rfl, _, _, rfl, rfl, ⟨by decide, by decide, by decide⟩, _, _, rfl, rfl, _, rfl, ?_⟩
      refine ite2 (fun _ => ⟨_, rfl, _, _, rfl, rfl, _, rfl, ite2 (fun _ => ?_) (fun _ => ?_)⟩) (fun _ => ?_)
      · refine ⟨_, rfl, .inl ⟨rfl, _, SqL.of hl1⟩, _, rfl, .inl ⟨_, rfl, _, _, rfl, rfl, (show (4099 : Int) ≠ 0 by decide), l, _, _, rfl, rfl, hl1, hsz, _, rfl, _, _, rfl, rfl, ⟨(show (4099 : Int) ≠ 0 by decide), (show (4099 : Int).natAbs < 1073741824 by decide)⟩, app _ _ _ _ _ rfl⟩⟩
      all_goals
        try refine iteF ?_
        refine ⟨_, rfl, _, _, rfl, rfl, .inr ⟨by decide, by decide⟩, _, rfl, _, _, rfl, rfl, _, _, rfl, rfl, .inr ⟨by decide, by decide⟩, _, _, rfl, rfl, .inl ⟨_, rfl, _, _, rfl, rfl, (show (2147483647 : Int) ≠ 0 by decide), ?_⟩⟩
        refine ⟨_, rfl, _, rfl, _, _, rfl, rfl, .inl ⟨(b1 _).2, (b1 _).1⟩, _, rfl, _, _, rfl, rfl, .inr ⟨by decide, by decide⟩, _, _, rfl, rfl, _, rfl, _, _, rfl, rfl, .inr ⟨by decide, by decide⟩, _, _, rfl, rfl, .inl ⟨_, rfl, _, _, rfl, rfl, (show (2147483629 : Int) ≠ 0 by decide), ?_⟩⟩
        refine ⟨_, rfl, _, rfl, _, _, rfl, rfl, .inl ⟨(b2 _).2, (b2 _).1⟩, _, rfl, _, _, rfl, rfl, _, rfl, _, _, rfl, rfl, .inl ⟨by decide, by decide⟩, _, _, rfl, rfl, .inl ⟨_, rfl, _, _, rfl, rfl, (show (2147483587 : Int) ≠ 0 by decide), ?_⟩⟩
        refine ⟨_, rfl, .inl ⟨rfl, _, SqL.of hl1⟩, _, rfl, _, _, rfl, rfl, ⟨(show (5 : Int) ≠ 0 by decide), (show (5 : Int).natAbs < 1073741824 by decide)⟩, _, _, rfl, rfl, (show (4099 : Int) ≠ 0 by decide), l, _, _, rfl, rfl, hl1, hsz, app _ _ _ _ _ rfl⟩
    · rintro σ H1 ⟨left, x, y, ns, rfl, s1, hl1, hn⟩
      exact ⟨_, rfl, q _ _ ns s1 hl hl1 hn⟩
theorem ok_pool : FnOk P w K mg base CX0 2 (He.ga K "_law_pool") T.d__law_pool ["script"] (spPool K) := by
  have G__law_numbers := ok_nums (P := P) (w := w) (base := base) T
  have G__law_cell := ok_cell (P := P) (w := w) (base := base) T
  refine T.F__law_pool.ok sc_law_pool (fun vs H Q E h => ?_) (fun cdv A outer s H vs Q E hr h => ?_)
  · obtain ⟨a, ns, rfl, _⟩ := h; rfl
  · obtain ⟨a, ns, rfl, ha, hlen, q⟩ := h
    refine ⟨_, PSs.nox (pss_cons (ps_set (i := 1) sc_law_pool.nd rfl (.inl rfl) (pe_lst pa_nil))
    (pss_cons (ps_for PassesOwn.never rfl (pi_range1 (by rfl) T.range (pa_cons (pe_callB (call_min2 rfl) (by rfl) T.min (by decide +kernel) (pa_cons pe_int (pa_cons (pe_callB (call_max2 rfl) (by rfl) T.max (by decide +kernel) (pa_cons pe_int (pa_cons (pe_callB call_len_seq (by rfl) T.len (by decide +kernel) (pa_cons (pv 0) pa_nil)) pa_nil))) pa_nil))) pa_nil)) (pg_name (i := 2) sc_law_pool.nd rfl (.inl rfl))
    (pss_one (ps_set (i := 1) sc_law_pool.nd rfl (.inl rfl) (pe_op op_cat (pv 1) (pe_call G__law_numbers hr (by rfl) T.g__law_numbers T.F__law_numbers.kp T.b__law_numbers .nil pass0 (pa_cons (pe_op op_add (pe_call G__law_cell hr (by rfl) T.g__law_cell T.F__law_cell.kp T.b__law_cell .nil pass0 (pa_cons (pv 0) (pa_cons (pv 2) pa_nil))) (pe_op op_mul pe_int (pv 2))) (pa_cons pe_int pa_nil)))))))
    (pss_one (ps_ret (pe_lst (pa_cons (pv 1) (pa_cons (pe_lst (pa_cons pe_int pa_nil)) pa_nil))))))), ?_⟩
    refine ⟨Nat.zero_le _, fun l0 hl0 => ?_⟩
    refine ⟨_, rfl, a, _, rfl, .inl (((Same.refl H).upd_new hl0).seq ha), _, _, rfl, _, _, rfl, ?_⟩
    have key : ∃ n : Nat, (if (if (((vi ns).length : Nat) : Int) > 1 then (((vi ns).length : Nat) : Int) else 1) < 6 then (if (((vi ns).length : Nat) : Int) > 1 then (((vi ns).length : Nat) : Int) else 1) else 6) = ((n : Nat) : Int) ∧ 1 ≤ n ∧ n ≤ 6 := by
      rw [vi_len]
      by_cases h1 : ((ns.length : Nat) : Int) > 1
      · rw [if_pos h1]
        by_cases h2 : ((ns.length : Nat) : Int) < 6
        · rw [if_pos h2]; exact ⟨ns.length, rfl, by omega, by omega⟩
        · rw [if_neg h2]; exact ⟨6, rfl, by omega, by omega⟩
      · rw [if_neg h1, if_pos (by omega)]; exact ⟨1, rfl, by omega, by omega⟩
    obtain ⟨n, en, hn1, hn2⟩ := key
    refine ⟨((n : Nat) : Int), congrArg (fun z => [V.int z]) en, by omega, by omega, ?_⟩
    refine for_range (lo := 0) (fun i σ H' => ∃ (l : Addr) (x : Option V) (zs : List Int), σ = [some (.ref a), some (.ref l), x] ∧ Same H H' ∧ H l = none ∧ H' l = some (.lst (vi zs)) ∧ zs.length = 24 * i)
      ⟨l0, none, [], rfl, (Same.refl H).upd_new hl0, hl0, upd_same, rfl⟩ ?_ ?_
    · rintro i σ H1 hi ⟨l, x, zs, rfl, s1, l00, hl1, hz⟩
      have hi6 : i < 6 := by omega
      refine ⟨_, rfl, _, rfl, _, rfl, a, ns, 0 + i, rfl, s1.seq ha, fun z => ?_⟩
      refine ⟨_, rfl, _, _, rfl, rfl, .inl ⟨by decide, by decide⟩, _, _, rfl, rfl, _, rfl, fun H2 l2 ms s2 hl20 hl2 hm => ?_⟩
      have hl12 := s2 _ _ hl1
      refine ⟨l, l2, _, _, rfl, rfl, hl12, hl2, Nat.le_of_lt (small1000 (by rw [vi_len, vi_len]; omega)), fun l3 hl3 => ?_⟩
      have s3 := (s1.trans s2)
      refine ⟨l3, _, zs ++ ms, rfl, s3.upd_new (s3.free hl3), s3.free hl3, ?_, ?_⟩
      · rw [upd_same]; unfold vi; rw [List.map_append]
      · rw [List.length_append]; omega
    · rintro σ H1 ⟨l, x, zs, rfl, s1, l00, hl1, hz⟩
      have en2 : ((n : Nat) : Int).toNat = n := rfl
      rw [en2] at hz
      refine ⟨_, rfl, by show 1 ≤ sizeLine; decide, fun c hc => ⟨by show 2 ≤ sizeLine; decide, fun p hp => ?_⟩⟩
      have nlc : l ≠ c := ne_of_none hl1 hc
      have npc : p ≠ c := fun z => by rw [z, upd_same] at hp; cases hp
      have nlp : l ≠ p := fun z => by rw [← z, upd_ne nlc, hl1] at hp; cases hp
      exact q _ p c ⟨l, zs, upd_same, by rw [upd_ne nlp, upd_ne nlc]; exact hl1, by rw [upd_ne npc.symm, upd_same]; rfl, npc, nlc, by omega, by omega⟩
theorem ok_draw : FnOk P w K mg base CX0 1 (He.ga K "_law_draw") T.d__law_draw ["pool", "many"] spDraw := by
  refine T.F__law_draw.ok sc_law_draw (fun vs H Q E h => ?_) (fun cdv A outer s H vs Q E hr h => ?_)
  · obtain ⟨p, c, k, many, rfl, _⟩ := h; rfl
  · obtain ⟨p, c, k, many, rfl, ⟨r, ns, hp, hr', hc, npc, nrc, hn1, hn2⟩, hk, hm, q⟩ := h
    refine ⟨_, PSs.nox (pss_cons (ps_set (i := 2) sc_law_draw.nd rfl (.inl rfl) (pe_ix ix_list (pe_ix ix_list (pv 0) pe_int (fun _ _ => rfl)) pe_int (fun _ _ => rfl)))
    (pss_cons (ps_asg (pe_op op_add (pv 2) pe_int) (pg_sub (pe_ix ix_list (pv 0) pe_int (fun _ _ => rfl)) pe_int set_list))
    (pss_cons (ps_set (i := 3) sc_law_draw.nd rfl (.inl rfl) (pe_op op_fdivN (pv 2) (pe_callB call_len_seq (by rfl) T.len (by decide +kernel) (pa_cons (pe_ix ix_list (pv 0) pe_int (fun _ _ => rfl)) pa_nil))))
    (pss_one (ps_ret (pe_op op_modN (pe_callTy call_int1 (by rfl) T.int (by decide +kernel) (pa_cons (pe_op op_add (pe_op op_add (pe_ix ix_list (pe_ix ix_list (pv 0) pe_int (fun _ _ => rfl)) (pe_op op_modN (pv 2) (pe_callB call_len_seq (by rfl) T.len (by decide +kernel) (pa_cons (pe_ix ix_list (pv 0) pe_int (fun _ _ => rfl)) pa_nil))) (fun _ _ => rfl)) (pe_op op_mul (pv 3) pe_int)) (pe_op op_mul (pe_op op_mul (pv 3) (pv 2)) pe_int)) pa_nil)) (pv 1))))))), ?_⟩
    refine ⟨_, rfl, p, _, _, _, rfl, rfl, SqL.of hp, atI_nat (j := 1) rfl, c, _, _, _, rfl, rfl, SqL.of hc, atI_nat (j := 0) rfl, ?_⟩
    refine ⟨_, rfl, _, _, rfl, rfl, _, rfl, p, _, _, _, rfl, rfl, SqL.of hp, atI_nat (j := 1) rfl, c, _, _, 0, rfl, rfl, hc, rfl, ?_⟩
    have hp1 : (upd H c (.lst [V.int (((k : Nat) : Int) + 1)])) p = some (.lst [.ref r, .ref c]) := by rw [upd_ne npc]; exact hp
    have hr1 : (upd H c (.lst [V.int (((k : Nat) : Int) + 1)])) r = some (.lst (vi ns)) := by rw [upd_ne nrc]; exact hr'
    have pool1 : PoolAt (upd H c (.lst [V.int (((k : Nat) : Int) + 1)])) p c (k + 1) := ⟨r, ns, hp1, hr1, upd_same, npc, nrc, hn1, hn2⟩
    have but1 : But c H (upd H c (.lst [V.int (((k : Nat) : Int) + 1)])) := fun a o n e => by rw [upd_ne n]; exact e
    have q' : ∀ z : Int, 0 ≤ z → z < ((many : Nat) : Int) → Q (.int z) (upd H c (.lst [V.int (((k : Nat) : Int) + 1)])) := fun z h1 h2 => by
      have e := q _ z.toNat (by omega) but1 pool1
      rwa [Int.toNat_of_nonneg h1] at e
    have nz : (((vi ns).length : Nat) : Int) ≠ 0 := by rw [vi_len]; omega
    have nb : (((vi ns).length : Nat) : Int).natAbs < 1073741824 := by rw [vi_len]; omega
    have hidx : k % ns.length < ns.length := Nat.mod_lt _ (by omega)
    have e0 : ((k : Nat) : Int).fmod (((vi ns).length : Nat) : Int) = ((k % ns.length : Nat) : Int) := by
      rw [Int.fmod_eq_emod_of_nonneg _ (by omega), vi_len]; rfl
    have a0 : atI (vi ns) (((k : Nat) : Int).fmod (((vi ns).length : Nat) : Int)) = some (V.int (ns[k % ns.length]'hidx)) := by
      rw [e0]; exact vi_at (List.getElem?_eq_getElem hidx)
    refine ⟨_, rfl, _, rfl, p, _, _, _, rfl, rfl, SqL.of hp1, atI_nat (j := 0) rfl, r, _, rfl, .inl (SqL.of hr1), _, _, rfl, rfl, ⟨nz, nb⟩, ?_⟩
    refine ⟨_, rfl, p, _, _, _, rfl, rfl, SqL.of hp1, atI_nat (j := 0) rfl, _, rfl, _, rfl, p, _, _, _, rfl, rfl, SqL.of hp1, atI_nat (j := 0) rfl, r, _, rfl, .inl (SqL.of hr1), _, _, rfl, rfl, nz, r, _, _, _, rfl, rfl, SqL.of hr1, a0, ?_⟩
    refine ⟨_, rfl, _, _, rfl, rfl, .inr ⟨by decide, by decide⟩, _, _, rfl, rfl, _, rfl, _, rfl, _, _, rfl, rfl, .inr ⟨by omega, by omega⟩, _, _, rfl, rfl, .inr ⟨by decide, by decide⟩, _, _, rfl, rfl, .inl ⟨_, rfl, _, rfl, _, _, rfl, rfl, (show ((many : Nat) : Int) ≠ 0 by omega), ?_⟩⟩
    exact q' _ (fm_small (by omega)).1 (fm_small (by omega)).2
end
end K63

set_option Elab.async false
set_option linter.all false
set_option maxRecDepth 100000
set_option maxHeartbeats 4000000
namespace K63
open PySem PySem.Spec PyProof.Rows L2
def spPick : Sp := fun vs H Q _ => ∃ (p c a : Addr) (k : Nat) (ns : List Int), vs = [.ref p, .ref a] ∧ PoolAt H p c k ∧ k ≤ 5000 ∧ H a = some (.lst (vi ns)) ∧ a ≠ c ∧ 0 < ns.length ∧ ns.length ≤ 1000 ∧ ∀ (H' : Hp) (v : Int), v ∈ ns → But c H H' → PoolAt H' p c (k + 1) → Q (.int v) H'
def spValue : Sp := fun vs H Q _ => ∃ (p c a : Addr) (k : Nat) (ns : List Int), vs = [.ref p, .ref a] ∧ PoolAt H p c k ∧ k ≤ 4990 ∧ H a = some (.lst (vi ns)) ∧ a ≠ c ∧ ns.length ≤ 1000 ∧ ∀ (H' : Hp) (v : Int) (k' : Nat), k' ≤ k + 2 → But c H H' → PoolAt H' p c k' → (v < 10000 ∨ ∃ n, n ∈ ns ∧ v = 10000 + n) → Q (.int v) H'
def spMem : Sp := fun vs H Q _ => ∃ (p c : Addr) (k : Nat), vs = [.ref p] ∧ PoolAt H p c k ∧ k ≤ 100 ∧ ∀ (H' : Hp) (q m l : Addr) (L : Rows) (k' : Nat), But c H H' → PoolAt H' p c k' → k' ≤ k + 200 → Wf L → H' q = some (.lst [.ref m, .ref l]) → TupF H' m (vi L.flatten) → H' l = some (.lst (vi (starts L))) → l ≠ c → Q (.ref q) H'
section
variable {P : Program} {w : World} {K : PySem.W.Frag} {mg : Str → Option Value} {base : Heap} (T : Txt K mg)
include T
theorem ok_pick : FnOk P w K mg base CX0 2 (He.ga K "_law_pick") T.d__law_pick ["pool", "rows"] spPick := by
  have G__law_draw := ok_draw (P := P) (w := w) (base := base) T
  refine T.F__law_pick.ok sc_law_pick (fun vs H Q E h => ?_) (fun cdv A outer s H vs Q E hr h => ?_)
  · obtain ⟨p, c, a, k, ns, rfl, _⟩ := h; rfl
  · obtain ⟨p, c, a, k, ns, rfl, hp, hk, ha, nac, hl, hl2, q⟩ := h
    refine ⟨_, PSs.nox (pss_one (ps_ret (pe_ix ix_list (pv 1) (pe_call G__law_draw hr (by rfl) T.g__law_draw T.F__law_draw.kp T.b__law_draw .nil pass0 (pa_cons (pv 0) (pa_cons (pe_callB call_len_seq (by rfl) T.len (by decide +kernel) (pa_cons (pv 1) pa_nil)) pa_nil))) (fun _ _ => rfl)))), ?_⟩
    refine ⟨_, rfl, _, rfl, _, rfl, a, _, rfl, .inl (SqL.of ha), ?_⟩
    rw [vi_len]
    refine ⟨p, c, k, ns.length, rfl, hp, hk, hl, fun H1 r hr but1 pool1 => ?_⟩
    exact ⟨a, _, _, _, rfl, rfl, SqL.of (but1 _ _ nac ha), vi_at (List.getElem?_eq_getElem hr), q _ _ (List.getElem_mem hr) but1 pool1⟩
theorem ok_value : FnOk P w K mg base CX0 3 (He.ga K "_law_value") T.d__law_value ["pool", "places"] spValue := by
  have G__law_draw := ok_draw (P := P) (w := w) (base := base) T
  have G__law_pick := ok_pick (P := P) (w := w) (base := base) T
  refine T.F__law_value.ok sc_law_value (fun vs H Q E h => ?_) (fun cdv A outer s H vs Q E hr h => ?_)
  · obtain ⟨p, c, a, k, ns, rfl, _⟩ := h; rfl
  · obtain ⟨p, c, a, k, ns, rfl, hp, hk, ha, nac, hl2, q⟩ := h
    have hr1 : Room 1 _ := hr.mono (by decide)
    refine ⟨_, PSs.nox (pss_cons (ps_if (PW.pt (pw_and (pt_cmpR op_gt (pe_callB call_len_seq (by rfl) T.len (by decide +kernel) (pa_cons (pv 1) pa_nil)) pe_int (nomark _)) (pw_and1 (pt_cmpR op_eq (pe_call G__law_draw hr1 (by rfl) T.g__law_draw T.F__law_draw.kp T.b__law_draw .nil pass0 (pa_cons (pv 0) (pa_cons pe_int pa_nil))) pe_int (nomark _)))))
    (pss_one (ps_ret (pe_op op_add pe_int (pe_call G__law_pick hr (by rfl) T.g__law_pick T.F__law_pick.kp T.b__law_pick .nil pass0 (pa_cons (pv 0) (pa_cons (pv 1) pa_nil))))))
    pss_nil)
    (pss_one (ps_ret (pe_call G__law_draw hr1 (by rfl) T.g__law_draw T.F__law_draw.kp T.b__law_draw .nil pass0 (pa_cons (pv 0) (pa_cons pe_int pa_nil)))))), ?_⟩
    refine ⟨_, rfl, a, _, rfl, .inl (SqL.of ha), _, _, rfl, rfl, _, rfl, ?_⟩
    rw [vi_len]
    refine ite2 (fun h1 => ?_) (fun h1 => ?_)
    · have h2 : 0 < ns.length := by have := of_decide_eq_true h1; omega
      refine ⟨_, rfl, p, c, k, 2, rfl, hp, by omega, by decide, fun H1 r hr but1 pool1 => ?_⟩
      refine ⟨rfl, _, rfl, ite2 (fun _ => ?_) (fun _ => ?_)⟩
      · refine ⟨_, rfl, _, rfl, p, c, a, k + 1, ns, rfl, pool1, by omega, but1 _ _ nac ha, nac, h2, hl2, fun H2 v hv but2 pool2 => ?_⟩
        exact ⟨_, _, rfl, rfl, q _ _ (k + 2) (Nat.le_refl _) (but1.trans but2) pool2 (.inr ⟨v, hv, rfl⟩)⟩
      · exact ⟨_, rfl, p, c, k + 1, 10000, rfl, pool1, by omega, by decide, fun H2 r hr but2 pool2 => q _ _ (k + 2) (Nat.le_refl _) (but1.trans but2) pool2 (.inl (by omega))⟩
    · exact ⟨_, rfl, p, c, k, 10000, rfl, hp, by omega, by decide, fun H2 r hr but2 pool2 => q _ _ (k + 1) (by omega) but2 pool2 (.inl (by omega))⟩
theorem ok_mem : FnOk P w K mg base CX0 4 (He.ga K "_law_memory") T.d__law_memory ["pool"] spMem := by
  have G__law_draw := ok_draw (P := P) (w := w) (base := base) T
  have G__law_value := ok_value (P := P) (w := w) (base := base) T
  refine T.F__law_memory.ok sc_law_memory (fun vs H Q E h => ?_) (fun cdv A outer s H vs Q E hr h => ?_)
  · obtain ⟨p, c, k, rfl, _⟩ := h; rfl
  · obtain ⟨p, c, k, rfl, hp, hk, q⟩ := h
    have hr1 : Room 1 _ := hr.mono (by decide)
    refine ⟨_, PSs.nox (pss_cons (ps_setLc (i := 2) (own := [("k", 1)]) (g := gName 1) (tt := tYes) (by rfl) sc_law_memory.nd rfl rfl (sw_true rfl rfl rfl (by decide +kernel)) (pi_range1 (by rfl) T.range (pa_cons (pe_call G__law_draw hr1 (by rfl) T.g__law_draw T.F__law_draw.kp T.b__law_draw .nil pass0 (pa_cons (pv 0) (pa_cons pe_int pa_nil))) pa_nil)) (blkOk_by (own := [("k", 1)]) (N := ["pool", "k", "sizes", "places", "at", "size", "memory"]) (sc := defScope s_law_memory) (by decide +kernel)) (fun _ _ _ _ _ => (pg_name (i := 1) sc_law_memory.nd rfl (.inl rfl))) (fun _ _ _ _ _ => pts_nil) (fun _ _ _ _ _ => (pe_call G__law_draw hr1 (by rfl) T.g__law_draw T.F__law_draw.kp T.b__law_draw .nil pass0 (pa_cons (pv 0) (pa_cons pe_int pa_nil)))))
    (pss_cons (ps_set (i := 3) sc_law_memory.nd rfl (.inl rfl) (pe_lst pa_nil))
    (pss_cons (ps_set (i := 4) sc_law_memory.nd rfl (.inl rfl) pe_int)
    (pss_cons (ps_for PassesOwn.never rfl (pi_list (pv 2)) (pg_name (i := 5) sc_law_memory.nd rfl (.inl rfl))
    (pss_cons (ps_expr (pe_bm PySem.F.plainAttrs_list PySem.F.slot_list_append PySem.F.type_list_append mt_append (pv 3) (pa_cons (pv 4) pa_nil)))
    (pss_one (ps_set (i := 4) sc_law_memory.nd rfl (.inl rfl) (pe_op op_add (pe_op op_add (pv 4) pe_int) (pv 5))))))
    (pss_cons (ps_set (i := 6) sc_law_memory.nd rfl (.inl rfl) (pe_lst pa_nil))
    (pss_cons (ps_for PassesOwn.never rfl (pi_list (pv 2)) (pg_name (i := 5) sc_law_memory.nd rfl (.inl rfl))
    (pss_cons (ps_set (i := 6) sc_law_memory.nd rfl (.inl rfl) (pe_op op_cat (pv 6) (pe_lst (pa_cons (pe_call G__law_draw hr1 (by rfl) T.g__law_draw T.F__law_draw.kp T.b__law_draw .nil pass0 (pa_cons (pv 0) (pa_cons pe_int pa_nil))) (pa_cons (pe_call G__law_draw hr1 (by rfl) T.g__law_draw T.F__law_draw.kp T.b__law_draw .nil pass0 (pa_cons (pv 0) (pa_cons pe_int pa_nil))) (pa_cons (pv 5) pa_nil))))))
    (pss_one (ps_for PassesOwn.never rfl (pi_range1 (by rfl) T.range (pa_cons (pv 5) pa_nil)) (pg_name (i := 1) sc_law_memory.nd rfl (.inl rfl))
    (pss_one (ps_expr (pe_bm PySem.F.plainAttrs_list PySem.F.slot_list_append PySem.F.type_list_append mt_append (pv 6) (pa_cons (pe_call G__law_value hr (by rfl) T.g__law_value T.F__law_value.kp T.b__law_value .nil pass0 (pa_cons (pv 0) (pa_cons (pv 3) pa_nil))) pa_nil))))))))
    (pss_one (ps_ret (pe_lst (pa_cons (pe_callTy call_tupleF (by rfl) T.tuple (by decide +kernel) (pa_cons (pv 6) pa_nil)) (pa_cons (pv 3) pa_nil))))))))))), ?_⟩
    refine ⟨_, rfl, p, c, k, 9, rfl, hp, by omega, by decide, fun H1 n hn but1 pool1 => ?_⟩
    refine ⟨((n : Nat) : Int), rfl, by omega, by omega, fun D hD => ?_⟩
    have nDc : D ≠ c := fun z => by
      obtain ⟨o, ho⟩ := pool1.cell
      rw [z, ho] at hD; cases hD
    refine lc_range (lo := 0) (fun i H' => ∃ ss : List Nat, ss.length = i ∧ (∀ s ∈ ss, s < 4) ∧ But c H1 H' ∧ PoolAt H' p c (k + 1 + i) ∧ H' D = some (.lst (vi (ss.map fun s => ((s : Nat) : Int)))))
      ⟨[], rfl, by simp, ((Same.refl H1).upd_new hD).but c, pool1.upd hD, upd_same⟩ ?_ ?_
    · rintro i H2 hi ⟨ss, hss, h4, but2, pool2, hD2⟩
      have hi9 : i < 9 := by omega
      refine ⟨rfl, _, rfl, p, c, k + 1 + i, 4, rfl, pool2, by omega, by decide, fun H3 r hr but3 pool3 => ?_⟩
      have hD3 := but3 _ _ nDc hD2
      refine ⟨_, hD3, small1000 (by rw [vi_len, List.length_map]; omega), ss ++ [r], by simp [hss], fun s hs => ?_, ?_, ?_, ?_⟩
      · rcases List.mem_append.mp hs with h | h
        · exact h4 s h
        · rw [List.mem_singleton.mp h]; exact hr
      · intro a o n e
        have nD : a ≠ D := ne_of_none e hD
        rw [upd_ne nD]; exact but3 _ _ n (but2 _ _ n e)
      · obtain ⟨r', ns, g1, g2, g3, g4⟩ := pool3
        have n1 : p ≠ D := fun z => by
          obtain ⟨_, _, f1, _, _, _⟩ := pool1
          rw [z, hD] at f1; cases f1
        have n2 : r' ≠ D := fun z => by
          obtain ⟨r1, ns1, f1, f2, _, f4⟩ := pool1
          have f5 := but3 _ _ f4.1 (but2 _ _ f4.1 f1)
          rw [g1] at f5
          have f6 : r' = r1 := by simpa using f5
          rw [← f6, z, hD] at f2; cases f2
        exact ⟨r', ns, by rw [upd_ne n1]; exact g1, by rw [upd_ne n2]; exact g2, by rw [upd_ne nDc.symm]; exact g3, g4⟩
      · rw [upd_same, List.map_append]
        unfold vi; rw [List.map_append]; rfl
    · rintro H2 ⟨ss, hss, h4, but2, pool2, hD2⟩
      have en : ((n : Nat) : Int).toNat = n := rfl
      rw [en] at hss pool2
      refine ⟨Nat.zero_le _, fun l hl => ?_⟩
      have nlc : l ≠ c := fun z => by
        obtain ⟨o, ho⟩ := pool2.cell
        rw [z, ho] at hl; cases hl
      have sz : ∀ {i : Nat} {y : V}, (vi (ss.map fun s => ((s : Nat) : Int)))[i]? = some y → ∃ s, y = V.int ((s : Nat) : Int) ∧ ss[i]? = some s ∧ s < 4 := fun {i y} h => by
        unfold vi at h
        rw [List.getElem?_map, List.getElem?_map] at h
        cases e : ss[i]? with
        | none => rw [e] at h; cases h
        | some s => rw [e] at h; exact ⟨s, (Option.some.inj h).symm, rfl, h4 s (List.mem_of_getElem? e)⟩
      have s2 : Same H2 (upd H2 l (.lst [])) := (Same.refl H2).upd_new hl
      refine ⟨_, rfl, D, rfl, ⟨_, SqL.of (s2 _ _ hD2)⟩, ?_⟩
      refine for_list (K := K) (a := D) (xs := vi (ss.map fun s => ((s : Nat) : Int))) (fun i σ H' => ∃ x5 : Option V, σ = [some (.ref p), none, some (.ref D), some (.ref l), some (.int ((pls ss i : Nat) : Int)), x5, none] ∧ Same H2 H' ∧ H' l = some (.lst (vi ((List.range i).map fun j => ((pls ss j : Nat) : Int)))))
        ⟨none, rfl, s2, upd_same⟩ (fun i σ H' _ ⟨_, _, s, _⟩ => SqL.of (s _ _ hD2)) ?_ ?_
      · rintro i y σ H3 hi ⟨x5, rfl, s3, hl3⟩
        obtain ⟨s, rfl, hs, hs4⟩ := sz hi
        have hil : i < ss.length := (List.getElem?_eq_some_iff.mp hs).1
        refine ⟨_, rfl, .inl ⟨rfl, _, SqL.of hl3⟩, _, rfl, l, _, _, rfl, rfl, hl3, small1000 (by rw [vi_len, List.length_map, List.length_range]; omega), ?_⟩
        refine ⟨_, rfl, _, _, rfl, rfl, _, rfl, _, _, rfl, rfl, ?_⟩
        have e : ((pls ss i : Nat) : Int) + 3 + ((s : Nat) : Int) = ((pls ss (i + 1) : Nat) : Int) := by rw [pls_succ hs]; omega
        dsimp only
        rw [e]
        refine ⟨_, rfl, s3.upd_new hl, ?_⟩
        rw [upd_same, List.range_succ, List.map_append]
        unfold vi; rw [List.map_append]; rfl
      · rintro σ H3 ⟨x5, rfl, s3, hl3⟩
        rw [vi_len, List.length_map] at hl3 ⊢
        have but3 : But c H H3 := (but1.trans but2).trans (s3.but c)
        have pool3 := pool2.same s3
        have hD3 := s3 _ _ hD2
        refine ⟨Nat.zero_le _, fun m0 hm0 => ?_⟩
        have nm0 : m0 ≠ c := fun z => by
          obtain ⟨o, ho⟩ := pool3.cell
          rw [z, ho] at hm0; cases hm0
        have s4 : Same H3 (upd H3 m0 (.lst [])) := (Same.refl H3).upd_new hm0
        refine ⟨_, rfl, D, rfl, ⟨_, SqL.of (s4 _ _ hD3)⟩, ?_⟩
        refine for_list (K := K) (a := D) (xs := vi (ss.map fun s => ((s : Nat) : Int))) (fun i σ H' => ∃ (x1 x5 : Option V) (m : Addr) (L : Rows) (k' : Nat), σ = [some (.ref p), x1, some (.ref D), some (.ref l), some (.int ((pls ss ss.length : Nat) : Int)), x5, some (.ref m)] ∧ But c H3 H' ∧ PoolAt H' p c k' ∧ k' ≤ k + 1 + n + 8 * i ∧ H3 m = none ∧ m ≠ c ∧ H' m = some (.lst (vi L.flatten)) ∧ Al (RowG ss) (ss.take i) L)
          ⟨none, x5, m0, [], _, rfl, s4.but c, pool3.same s4, Nat.le_refl _, hm0, nm0, upd_same, by simp; exact .nil⟩ (fun i σ H' _ ⟨_, _, _, _, _, _, b, _⟩ => SqL.of (b _ _ nDc hD3)) ?_ ?_
        · rintro i y σ H4 hi ⟨x1, x5, m, L, k', rfl, but4, pool4, hk4, m30, nmc, hm4, hal⟩
          obtain ⟨s, rfl, hs, hs4⟩ := sz hi
          have hil : i < ss.length := (List.getElem?_eq_some_iff.mp hs).1
          have hsm := drawn_small hal fun s hs => h4 s (List.mem_of_mem_take hs)
          rw [List.length_take] at hsm
          have hm3 : m ≠ c := nmc
          refine ⟨_, rfl, _, rfl, p, c, k', 3, rfl, pool4, by omega, by decide, fun H5 a ha but5 pool5 => ?_⟩
          refine ⟨_, rfl, p, c, k' + 1, 5, rfl, pool5, by omega, by decide, fun H6 b hb but6 pool6 => ?_⟩
          refine ⟨_, rfl, by show 3 ≤ sizeLine; decide, fun x hx => ?_⟩
          have hm6 := but6 _ _ nmc (but5 _ _ nmc hm4)
          have nmx : m ≠ x := ne_of_none hm6 hx
          have nxc : x ≠ c := fun z => by
            obtain ⟨o, ho⟩ := pool6.cell
            rw [z, ho] at hx; cases hx
          refine ⟨m, x, _, [V.int ((a : Nat) : Int), V.int ((b : Nat) : Int), V.int ((s : Nat) : Int)], rfl, rfl, by rw [upd_ne nmx]; exact hm6, upd_same, Nat.le_of_lt (small1000 (by rw [vi_len]; simp only [List.length_cons, List.length_nil]; omega)), fun m2 hm2 => ?_⟩
          have s7 : Same H6 (upd H6 x (.lst [V.int ((a : Nat) : Int), V.int ((b : Nat) : Int), V.int ((s : Nat) : Int)])) := (Same.refl _).upd_new hx
          have s8 : Same (upd H6 x (.lst [V.int ((a : Nat) : Int), V.int ((b : Nat) : Int), V.int ((s : Nat) : Int)])) (upd (upd H6 x (.lst [V.int ((a : Nat) : Int), V.int ((b : Nat) : Int), V.int ((s : Nat) : Int)])) m2 (.lst (vi L.flatten ++ [V.int ((a : Nat) : Int), V.int ((b : Nat) : Int), V.int ((s : Nat) : Int)]))) := (Same.refl _).upd_new hm2
          have but8 := ((but4.trans but5).trans but6).trans ((s7.trans s8).but c)
          have pool8 := pool6.same (s7.trans s8)
          have nm2c : m2 ≠ c := fun z => by
            obtain ⟨o, ho⟩ := pool6.cell
            have := s7 _ _ ho
            rw [← z, hm2] at this; cases this
          have m230 : H3 m2 = none := by
            cases e : H3 m2 with
            | none => rfl
            | some o =>
              have := s7 _ _ (but6 _ _ nm2c (but5 _ _ nm2c (but4 _ _ nm2c e)))
              rw [hm2] at this; cases this
          have e8 : vi L.flatten ++ [V.int ((a : Nat) : Int), V.int ((b : Nat) : Int), V.int ((s : Nat) : Int)] = vi (L.flatten ++ ([((a : Nat) : Int), ((b : Nat) : Int), ((s : Nat) : Int)] ++ [])) := by unfold vi; rw [List.map_append]; rfl
          have hm28 : (upd (upd H6 x (.lst [V.int ((a : Nat) : Int), V.int ((b : Nat) : Int), V.int ((s : Nat) : Int)])) m2 (.lst (vi L.flatten ++ [V.int ((a : Nat) : Int), V.int ((b : Nat) : Int), V.int ((s : Nat) : Int)]))) m2 = some (.lst (vi (L.flatten ++ ([((a : Nat) : Int), ((b : Nat) : Int), ((s : Nat) : Int)] ++ [])))) := by rw [upd_same, e8]
          generalize upd (upd H6 x (.lst [V.int ((a : Nat) : Int), V.int ((b : Nat) : Int), V.int ((s : Nat) : Int)])) m2 (.lst (vi L.flatten ++ [V.int ((a : Nat) : Int), V.int ((b : Nat) : Int), V.int ((s : Nat) : Int)])) = H8 at s8 but8 pool8 hm28 ⊢
          refine ⟨_, rfl, ((s : Nat) : Int), rfl, by omega, by omega, ?_⟩
          refine for_range (lo := 0) (fun t σ H' => ∃ (x1 : Option V) (k2 : Nat) (ws : List Int), σ = [some (.ref p), x1, some (.ref D), some (.ref l), some (.int ((pls ss ss.length : Nat) : Int)), some (.int ((s : Nat) : Int)), some (.ref m2)] ∧ But c H3 H' ∧ PoolAt H' p c k2 ∧ k2 ≤ k' + 2 + 2 * t ∧ H' m2 = some (.lst (vi (L.flatten ++ ([((a : Nat) : Int), ((b : Nat) : Int), ((s : Nat) : Int)] ++ ws)))) ∧ ws.length = t ∧ ∀ v ∈ ws, v < 10000 ∨ ∃ j, j < ss.length ∧ v = 10000 + ((pls ss j : Nat) : Int))
            ⟨x1, k' + 1 + 1, [], rfl, but8, pool8, by omega, hm28, rfl, by simp⟩ ?_ ?_
          · rintro t σ H9 ht ⟨x1, k2, ws, rfl, but9, pool9, hk9, hm9, hwl, hw⟩
            have ht' : t < s := ht
            refine ⟨_, rfl, .inl ⟨rfl, _, SqL.of hm9⟩, _, rfl, _, rfl, p, c, l, k2, _, rfl, pool9, by omega, but9 _ _ nlc hl3, nlc, by rw [List.length_map, List.length_range]; omega, fun H10 v k3 hk3 but10 pool10 hv => ?_⟩
            have hm10 := but10 _ _ nm2c hm9
            refine ⟨m2, _, _, rfl, rfl, hm10, small1000 (by rw [vi_len]; simp only [List.length_append, List.length_cons, List.length_nil]; omega), ?_⟩
            refine ⟨_, k3, ws ++ [v], rfl, fun a' o' n' e' => ?_, ?_, by omega, ?_, by simp [hwl], fun u hu => ?_⟩
            · rw [upd_ne (ne_of_none e' m230)]; exact but10 _ _ n' (but9 _ _ n' e')
            · obtain ⟨r', ns', g1, g2, g3, g4⟩ := pool10
              obtain ⟨r1, ns1, f1, f2, f3, f4⟩ := pool3
              have f5 := but10 _ _ f4.1 (but9 _ _ f4.1 f1)
              rw [g1] at f5
              have f6 : r' = r1 := by simpa using f5
              have n1 : p ≠ m2 := ne_of_none f1 m230
              have n2 : r' ≠ m2 := by rw [f6]; exact ne_of_none f2 m230
              exact ⟨r', ns', by rw [upd_ne n1]; exact g1, by rw [upd_ne n2]; exact g2, by rw [upd_ne nm2c.symm]; exact g3, g4⟩
            · rw [upd_same]
              unfold vi
              simp
            · rcases List.mem_append.mp hu with h | h
              · exact hw u h
              · rw [List.mem_singleton.mp h]
                rcases hv with hv | ⟨z, hz, ez⟩
                · exact .inl hv
                · obtain ⟨j, hj, ej⟩ := List.mem_map.mp hz
                  exact .inr ⟨j, List.mem_range.mp hj, by rw [ez, ej]⟩
          · rintro σ H9 ⟨x1, k2, ws, rfl, but9, pool9, hk9, hm9, hwl, hw⟩
            have hwl' : ws.length = s := hwl
            refine ⟨x1, _, m2, L ++ [[((a : Nat) : Int), ((b : Nat) : Int), ((s : Nat) : Int)] ++ ws], k2, rfl, but9, pool9, ?_, m230, nm2c, ?_, ?_⟩
            · have : k2 ≤ k' + 2 + 2 * s := hk9
              omega
            · rw [hm9]; simp
            · rw [List.take_succ, hs]
              exact hal.snoc (rowG (by omega) hwl' hw)
        · rintro σ H4 ⟨x1, x5, m, L, k', rfl, but4, pool4, hk4, m30, nmc, hm4, hal⟩
          rw [vi_len, List.length_map] at hal hk4
          rw [List.take_length] at hal
          have hw := drawn_wf hal h4 (by omega)
          refine ⟨_, rfl, m, _, rfl, SqL.of hm4, fun t o ht ho => ?_⟩
          have s5 : Same H4 (upd H4 t (.frz o (.tup (vi L.flatten)))) := (Same.refl H4).upd_new ht
          refine ⟨_, rfl, by show 2 ≤ sizeLine; decide, fun qa hqa => ?_⟩
          have s6 : Same (upd H4 t (.frz o (.tup (vi L.flatten)))) (upd (upd H4 t (.frz o (.tup (vi L.flatten)))) qa (.lst [.ref t, .ref l])) := (Same.refl _).upd_new hqa
          refine q _ qa t l L k' ((but3.trans but4).trans ((s5.trans s6).but c)) (pool4.same (s5.trans s6)) (by omega) hw upd_same ⟨o, s6 _ _ upd_same, ho⟩ ?_ nlc
          rw [drawn_starts hal]
          exact (s5.trans s6) _ _ (but4 _ _ nlc hl3)
end
end K63

set_option Elab.async false
set_option linter.all false
set_option maxRecDepth 100000
set_option maxHeartbeats 4000000
namespace K63
open PySem PySem.Spec PyProof.Rows L2
def sm1 : Option Int := some (-1)
theorem slice_initF {K : PySem.W.Frag} {H : Hp} {a : Addr} {xs : List V} {Q : VK} (h : TupF H a xs) (q : ∀ t H', Same H H' → TupF H' t xs.dropLast → Q (.ref t) H') : rSlF K (.ref a) none (some (-1)) H Q := by
  have e1 : HT.sIx xs.length xs.length (some (-1)) = xs.length - 1 := by
    show (if (-1 : Int) < 0 then ((-1 : Int) + (xs.length : Int)).toNat else min (-1 : Int).toNat xs.length) = _
    rw [if_pos (by decide)]; omega
  refine ⟨a, xs, rfl, h.sq, fun hz => q _ _ (Same.refl _) ?_, fun _ p o hp ho => q _ _ ((Same.refl _).upd_new hp) ?_⟩
  · have e := hz.2
    rw [e1] at e
    have : xs = [] := by
      cases xs with
      | nil => rfl
      | cons x t => simp only [List.length_cons] at e; omega
    subst this; exact h
  · have e : cutV xs none (some (-1)) = xs.dropLast := by
      unfold cutV
      rw [e1, HT.sIx_none, List.drop_zero, Nat.sub_zero, List.dropLast_eq_take]
    rw [e]; exact ⟨o, upd_same, ho⟩
theorem slice_tailF {K : PySem.W.Frag} {H : Hp} {a : Addr} {xs : List V} {Q : VK} (h : TupF H a xs) (h2 : 2 ≤ xs.length) (q : ∀ t H', Same H H' → TupF H' t (xs.drop 2) → Q (.ref t) H') : rSlF K (.ref a) (some 2) none H Q := by
  have e1 : HT.sIx xs.length 0 (some 2) = 2 := by
    have e : HT.sIx xs.length 0 (some (((2 : Nat)) : Int)) = min 2 xs.length := HT.sIx_nat _ _ _
    rw [Nat.min_eq_left h2] at e; exact e
  refine ⟨a, xs, rfl, h.sq, fun hz => ?_, fun _ p o hp ho => q _ _ ((Same.refl _).upd_new hp) ?_⟩
  · rw [e1] at hz; exact absurd hz.1 (by decide)
  · have e : cutV xs (some 2) none = xs.drop 2 := by
      unfold cutV
      rw [e1, HT.sIx_none, List.take_of_length_le (by rw [List.length_drop]; exact Nat.le_refl _)]
    rw [e]; exact ⟨o, upd_same, ho⟩
theorem sqt_updL {K : PySem.W.Frag} {H : Hp} {a d : Addr} {xs ys : List V} {o : HO} (h : SqT K H a xs) (hd : H d = some (.lst ys)) : SqT K (upd H d o) a xs := by
  rcases h with (h | ⟨u, h⟩) | h
  · exact .inl (.inl (by rw [upd_ne (ne_of h hd (by intro z; cases z))]; exact h))
  · exact .inl (.inr ⟨u, by rw [upd_ne (ne_of h hd (by intro z; cases z))]; exact h⟩)
  · exact .inr h
theorem tupF_updL {H : Hp} {a d : Addr} {xs ys : List V} {o : HO} (h : TupF H a xs) (hd : H d = some (.lst ys)) : TupF (upd H d o) a xs :=
  let ⟨u, h, e⟩ := h; ⟨u, by rw [upd_ne (ne_of h hd (by intro z; cases z))]; exact h, e⟩
theorem Paper.same {K : PySem.W.Frag} {L : Rows} {H H' : Hp} {pa : Addr} {pp : List (Nat × Nat)} (h : Paper K L H pa pp) (s : Same H H') : Paper K L H' pa pp :=
  let ⟨zs, e, t, q⟩ := h; ⟨zs, e, t.same s, fun z hz => s.sqt (q z hz)⟩
theorem Paper.updL {K : PySem.W.Frag} {L : Rows} {H : Hp} {pa d : Addr} {pp : List (Nat × Nat)} {ys : List V} {o : HO} (h : Paper K L H pa pp) (hd : H d = some (.lst ys)) : Paper K L (upd H d o) pa pp :=
  let ⟨zs, e, t, q⟩ := h; ⟨zs, e, tupF_updL t hd, fun z hz => sqt_updL (q z hz) hd⟩
def RowOk (K : PySem.W.Frag) (L : Rows) (roots : List Int) (H : Hp) (t : Addr) : Prop :=
  ∃ (o b m : Addr) (O : Rows) (bv : List Int) (qq : List (Nat × Nat)), SqT K H t [.ref o, .ref b, .ref m] ∧ Pre L O roots qq ∧ SqT K H o (vi O.flatten) ∧ SqT K H b (vi bv) ∧ bv.length ≤ 4 ∧ Paper K L H m qq
theorem RowOk.same {K : PySem.W.Frag} {L : Rows} {roots : List Int} {H H' : Hp} {t : Addr} (h : RowOk K L roots H t) (s : Same H H') : RowOk K L roots H' t :=
  let ⟨o, b, m, O, bv, qq, h1, h2, h3, h4, h5, h6⟩ := h; ⟨o, b, m, O, bv, qq, s.sqt h1, h2, s.sqt h3, s.sqt h4, h5, h6.same s⟩
theorem RowOk.updL {K : PySem.W.Frag} {L : Rows} {roots : List Int} {H : Hp} {t d : Addr} {ys : List V} {x : HO} (h : RowOk K L roots H t) (hd : H d = some (.lst ys)) : RowOk K L roots (upd H d x) t :=
  let ⟨o, b, m, O, bv, qq, h1, h2, h3, h4, h5, h6⟩ := h; ⟨o, b, m, O, bv, qq, sqt_updL h1 hd, h2, sqt_updL h3 hd, sqt_updL h4 hd, h5, h6.updL hd⟩
def RowsAt (K : PySem.W.Frag) (L : Rows) (roots : List Int) (H : Hp) (R : Addr) (n : Nat) : Prop := ∃ ts : List Addr, H R = some (.lst (ts.map V.ref)) ∧ (∀ t ∈ ts, RowOk K L roots H t) ∧ ts.length = n
theorem Paper.len {K : PySem.W.Frag} {L : Rows} {H : Hp} {pa : Addr} {pp : List (Nat × Nat)} (h : Paper K L H pa pp) : ∃ xs, TupF H pa xs ∧ xs.length = pp.length := by
  obtain ⟨zs, e, t, _⟩ := h
  exact ⟨_, t, by rw [e, List.length_map, List.length_map]⟩
theorem Paper.init {K : PySem.W.Frag} {L : Rows} {H : Hp} {pa : Addr} {pp : List (Nat × Nat)} {Q : VK} (h : Paper K L H pa pp) (q : ∀ t H', Same H H' → Paper K L H' t pp.dropLast → Q (.ref t) H') : rSlF K (.ref pa) none (some (-1)) H Q := by
  obtain ⟨zs, rfl, t, hz⟩ := h
  refine slice_initF t fun t' H' s ht => q t' H' s ⟨zs.dropLast, by rw [List.map_dropLast], by rw [List.map_dropLast]; exact ht, fun z hz' => s.sqt (hz z ((List.dropLast_sublist zs).subset hz'))⟩
theorem Paper.back {K : PySem.W.Frag} {L : Rows} {H : Hp} {pa : Addr} {pp : List (Nat × Nat)} {Q : VK} (h : Paper K L H pa pp) (q : ∀ t H', Same H H' → Paper K L H' t pp.reverse → Q (.ref t) H') : ∃ a xs, V.ref pa = V.ref a ∧ SqT K H a xs ∧ NewF H xs.reverse Q := by
  obtain ⟨zs, rfl, t, hz⟩ := h
  exact ⟨pa, _, rfl, t.sq, fun p o hp ho => q _ _ ((Same.refl _).upd_new hp) ⟨zs.reverse, by rw [List.map_reverse], ⟨o, by rw [List.map_reverse]; exact upd_same, ho⟩, fun z hz' => ((Same.refl _).upd_new hp).sqt (hz z (List.mem_reverse.mp hz'))⟩⟩
theorem _root_.L2.TupF.ty {K : PySem.W.Frag} {H : Hp} {a : Addr} {xs : List V} (h : TupF H a xs) : TyX K H (.ref a) (.type "tuple") := let ⟨_, e, _⟩ := h; .fTuple e
theorem slice_initV {K : PySem.W.Frag} {H : Hp} {a : Addr} {xs : List Int} {Q : VK} (h : TupF H a (vi xs)) (q : ∀ t H', Same H H' → TupF H' t (vi xs.dropLast) → Q (.ref t) H') : rSlF K (.ref a) none (some (-1)) H Q :=
  slice_initF h fun t H' s ht => q t H' s (by unfold vi at ht ⊢; rw [List.map_dropLast]; exact ht)
/-- a paper made by a comprehension over another -/
def LcQ (K : PySem.W.Frag) (L : Rows) (H1 : Hp) (D : Addr) (pp : List (Nat × Nat)) (f : Nat × Nat → Nat × Nat) (i : Nat) (H : Hp) : Prop :=
  Same H1 H ∧ ∃ zs : List (Addr × (Nat × Nat)), zs.map (·.2) = (pp.take i).map f ∧ H D = some (.lst (zs.map fun z => V.ref z.1)) ∧ ∀ z ∈ zs, SqT K H z.1 [.int ((st L z.2.1 : Nat) : Int), .int ((z.2.2 : Nat) : Int)]
theorem LcQ.zero {K : PySem.W.Frag} {L : Rows} {H1 : Hp} {D : Addr} {pp : List (Nat × Nat)} {f : Nat × Nat → Nat × Nat} (hD : H1 D = none) : LcQ K L H1 D pp f 0 (upd H1 D (.lst [])) := ⟨(Same.refl _).upd_new hD, [], by simp, upd_same, by simp⟩
theorem LcQ.next {K : PySem.W.Frag} {L : Rows} {H1 H : Hp} {D : Addr} {pp : List (Nat × Nat)} {f : Nat × Nat → Nat × Nat} {i : Nat} {e : Nat × Nat} {t : Addr} (h : LcQ K L H1 D pp f i H) (he : pp[i]? = some e) (hD : H1 D = none) (hl : pp.length ≤ 1000) (ht : H t = none) :
    ∃ acc, (upd H t (.tup [.int ((st L (f e).1 : Nat) : Int), .int (((f e).2 : Nat) : Int)])) D = some (.lst acc) ∧ acc.length < sizeLine ∧ LcQ K L H1 D pp f (i + 1) (upd (upd H t (.tup [.int ((st L (f e).1 : Nat) : Int), .int (((f e).2 : Nat) : Int)])) D (.lst (acc ++ [.ref t]))) := by
  obtain ⟨s, zs, e1, e2, e3⟩ := h
  have nDt : D ≠ t := ne_of_none e2 ht
  have hzl : zs.length ≤ pp.length := by
    have h1 := congrArg List.length e1
    rw [List.length_map, List.length_map, List.length_take] at h1; omega
  have hD2 : (upd H t (.tup [.int ((st L (f e).1 : Nat) : Int), .int (((f e).2 : Nat) : Int)])) D = some (.lst (zs.map fun z => V.ref z.1)) := by rw [upd_ne nDt]; exact e2
  refine ⟨_, hD2, small1000 (by rw [List.length_map]; omega), (s.trans ((Same.refl H).upd_new ht)).upd_new hD, zs ++ [(t, f e)], ?_, ?_, fun z hz => ?_⟩
  · rw [List.map_append, e1, List.take_succ, he, List.map_append]; rfl
  · rw [upd_same, List.map_append]; rfl
  · rcases List.mem_append.mp hz with h1 | h1
    · exact sqt_updL (((Same.refl H).upd_new ht).sqt (e3 z h1)) hD2
    · rw [List.mem_singleton.mp h1]
      exact SqT.of (by rw [upd_ne nDt.symm, upd_same])
theorem LcQ.all {K : PySem.W.Frag} {L : Rows} {H1 H : Hp} {D : Addr} {pp : List (Nat × Nat)} {f : Nat × Nat → Nat × Nat} {Q : VK} (h : LcQ K L H1 D pp f pp.length H) (q : ∀ t H', Same H1 H' → Paper K L H' t (pp.map f) → Q (.ref t) H') :
    ∃ p ys, [V.ref D] = [.ref p] ∧ SqL K H p ys ∧ NewF H ys Q := by
  obtain ⟨s, zs, e1, e2, e3⟩ := h
  rw [List.take_length] at e1
  exact ⟨D, _, rfl, SqL.of e2, fun p o hp ho => q _ _ (s.trans ((Same.refl _).upd_new hp)) ⟨zs, e1.symm, ⟨o, upd_same, ho⟩, fun z hz => ((Same.refl _).upd_new hp).sqt (e3 z hz)⟩⟩
/-- the i-th of a paper -/
theorem Paper.at {K : PySem.W.Frag} {L : Rows} {H : Hp} {pa : Addr} {pp : List (Nat × Nat)} (h : Paper K L H pa pp) : ∃ xs, TupF H pa xs ∧ xs.length = pp.length ∧ ∀ (i : Nat) (y : V), xs[i]? = some y → ∃ (z : Addr) (e : Nat × Nat), y = .ref z ∧ pp[i]? = some e ∧ SqT K H z [.int ((st L e.1 : Nat) : Int), .int ((e.2 : Nat) : Int)] := by
  obtain ⟨zs, rfl, t, hz⟩ := h
  refine ⟨_, t, by rw [List.length_map, List.length_map], fun i y hy => ?_⟩
  rw [List.getElem?_map] at hy
  cases e : zs[i]? with
  | none => rw [e] at hy; cases hy
  | some z =>
    rw [e] at hy
    exact ⟨z.1, z.2, (Option.some.inj hy).symm, by rw [List.getElem?_map, e]; rfl, hz z (List.mem_of_getElem? e)⟩
theorem two_of {K : PySem.W.Frag} {L : Rows} {H : Hp} {xs : List V} {pp : List (Nat × Nat)} (h : ∀ (i : Nat) (y : V), xs[i]? = some y → ∃ (z : Addr) (e : Nat × Nat), y = .ref z ∧ pp[i]? = some e ∧ SqT K H z [.int ((st L e.1 : Nat) : Int), .int ((e.2 : Nat) : Int)]) (hl : xs.length = pp.length) (h2 : 2 ≤ pp.length) :
    ∃ (f0 f1 : Nat × Nat) (rest : List (Nat × Nat)) (z0 z1 : Addr), pp = f0 :: f1 :: rest ∧ atI xs (0 : Int) = some (V.ref z0) ∧ atI xs (1 : Int) = some (V.ref z1) ∧ SqT K H z0 [.int ((st L f0.1 : Nat) : Int), .int ((f0.2 : Nat) : Int)] ∧ SqT K H z1 [.int ((st L f1.1 : Nat) : Int), .int ((f1.2 : Nat) : Int)] := by
  cases pp with
  | nil => simp at h2
  | cons e0 t =>
    cases t with
    | nil => simp at h2
    | cons e1 rest =>
      cases xs with
      | nil => simp at hl
      | cons x0 t =>
        cases t with
        | nil => simp at hl
        | cons x1 t =>
          obtain ⟨z0, f0, a0, b0, c0⟩ := h 0 x0 rfl
          obtain ⟨z1, f1, a1, b1, c1⟩ := h 1 x1 rfl
          have g0 : e0 = f0 := Option.some.inj b0
          have g1 : e1 = f1 := Option.some.inj b1
          subst a0 a1 g0 g1
          exact ⟨e0, e1, rest, z0, z1, rfl, atI_nat (j := 0) rfl, atI_nat (j := 1) rfl, c0, c1⟩
theorem pr0 (x y : Int) : atI [V.int x, V.int y] (0 : Int) = some (V.int x) := atI_nat (j := 0) rfl
theorem pr1 (x y : Int) : atI [V.int x, V.int y] (1 : Int) = some (V.int y) := atI_nat (j := 1) rfl
def But.tupF {c : Addr} {H H' : Hp} {a : Addr} {xs ys : List V} (b : But c H H') (h : TupF H a xs) (hc : H c = some (.lst ys)) : TupF H' a xs :=
  let ⟨o, e, d⟩ := h; ⟨o, b _ _ (ne_of e hc (by intro z; cases z)) e, d⟩
end K63

set_option Elab.async false
set_option linter.all false
set_option maxRecDepth 100000
set_option maxHeartbeats 8000000
namespace K63
open PySem PySem.Spec PyProof.Rows L2
abbrev lawN : List Str := ["script", "pool", "memory", "places", "roots", "told", "other", "behind", "paper", "rows", "own", "roots_behind", "moves", "again", "k", "old", "new"]
abbrev lawX (P : Program) (w : World) (K : PySem.W.Frag) (mg : Str → Option Value) (base : Heap) (cdv : Value) (A : Around) (outer : List Env) (s : Shared) (H0 : Hp) (E : XK) : Cx := (cxOf CX0 P w K mg base lawN "law" (defScope s_law) (He.ga K "law") cdv A outer s H0 E).nox
abbrev lawSt (i : Nat) : Stmt := (defBody s_law).getD i (.Pass ⟨0, 0, 0, 0⟩)
structure Nine (K : PySem.W.Frag) (L O : Rows) (rs bhv : List Int) (pp : List (Nat × Nat)) (H : Hp) (m rt o bh pa : Addr) : Prop where
  hm : TupF H m (vi L.flatten)
  hr : TupF H rt (vi rs)
  ho : TupF H o (vi O.flatten)
  hbh : TupF H bh (vi bhv)
  hpa : Paper K L H pa pp
theorem Nine.same {K : PySem.W.Frag} {L O : Rows} {rs bhv : List Int} {pp : List (Nat × Nat)} {H H' : Hp} {m rt o bh pa : Addr} (h : Nine K L O rs bhv pp H m rt o bh pa) (s : Same H H') : Nine K L O rs bhv pp H' m rt o bh pa :=
  ⟨h.hm.same s, h.hr.same s, h.ho.same s, h.hbh.same s, h.hpa.same s⟩
theorem Nine.updL {K : PySem.W.Frag} {L O : Rows} {rs bhv : List Int} {pp : List (Nat × Nat)} {H : Hp} {m rt o bh pa d : Addr} {ys : List V} {x : HO} (h : Nine K L O rs bhv pp H m rt o bh pa) (hd : H d = some (.lst ys)) : Nine K L O rs bhv pp (upd H d x) m rt o bh pa :=
  ⟨tupF_updL h.hm hd, tupF_updL h.hr hd, tupF_updL h.ho hd, tupF_updL h.hbh hd, h.hpa.updL hd⟩
structure Math (L O : Rows) (rs bhv : List Int) (ord : List Nat) (pp : List (Nat × Nat)) : Prop where
  w : Wf L
  ro : ∀ v ∈ rs, VOk L v
  few : rs.length ≤ 4
  coll : Coll L rs ord O bhv
  perm : pp.Perm (pp0 L ord)
theorem Math.pp8 {L O : Rows} {rs bhv : List Int} {ord : List Nat} {pp : List (Nat × Nat)} (h : Math L O rs bhv ord pp) : pp.length ≤ 8 := by
  have h1 := h.perm.length_eq
  unfold pp0 at h1
  rw [List.length_map] at h1
  have h2 := h.coll.o.len
  have h3 := h.w.many
  omega
theorem Math.bl {L O : Rows} {rs bhv : List Int} {ord : List Nat} {pp : List (Nat × Nat)} (h : Math L O rs bhv ord pp) : bhv.length ≤ 4 := by rw [← h.coll.bh.len]; exact h.few
theorem Math.pre {L O : Rows} {rs bhv : List Int} {ord : List Nat} {pp : List (Nat × Nat)} (h : Math L O rs bhv ord pp) : Pre L O rs pp := h.coll.pre h.w h.ro h.few h.perm
abbrev slots (a p m l rt t o bh pa : Addr) (x9 x10 x11 x12 : Option V) : L2.St := [some (.ref a), some (.ref p), some (.ref m), some (.ref l), some (.ref rt), some (.ref t), some (.ref o), some (.ref bh), some (.ref pa), x9, x10, x11, x12, none, none, none, none]
section
variable {P : Program} {w : World} {K : PySem.W.Frag} {mg : Str → Option Value} {base : Heap} (T : Txt K mg)
include T
theorem st8 {cdv : Value} {A : Around} {outer : List Env} {s : Shared} {H0 : Hp} {E : XK} (hr : Room 4 (A.deeper (envOfC "law" (defScope s_law) s.heap.objs.size (He.ga K "law") cdv))) :
    ∃ tt : TS, PS (lawX P w K mg base cdv A outer s H0 E) (lawSt 8) tt ∧ ∀ (D : Ends) (H9 : Hp), ∀ (a p m l rt t o bh pa : Addr) (L O : Rows) (rs bhv : List Int) (ord : List Nat) (pp : List (Nat × Nat)), Math L O rs bhv ord pp → Nine K L O rs bhv pp H9 m rt o bh pa → (∀ R H, Nine K L O rs bhv pp H m rt o bh pa → RowsAt K L rs H R 4 → D.nx (slots a p m l rt t o bh pa (some (.ref R)) none none none) H) → tt D (slots a p m l rt t o bh pa none none none none) H9 := by
  refine ⟨_, (ps_set (i := 9) sc_law.nd rfl (.inl rfl) (pe_lst (pa_cons (pe_tup (pa_cons (pv 6) (pa_cons (pe_slice sl_tupF (pv 7) po_none (po_some (pe_un un_neg pe_int))) (pa_cons (pv 8) pa_nil)))) (pa_cons (pe_tup (pa_cons (pv 6) (pa_cons (pv 7) (pa_cons (pe_slice sl_tupF (pv 8) po_none (po_some (pe_un un_neg pe_int))) pa_nil)))) (pa_cons (pe_tup (pa_cons (pv 2) (pa_cons (pv 4) (pa_cons (pe_callTy call_tupleF (by rfl) T.tuple (by decide +kernel) (pa_cons (pe_lc (own := [("old", 15), ("new", 16)]) (g := gTup _ 2 (gCons (gName 15) (gCons (gName 16) gNil))) (tt := tYes) (by rfl) sc_law.nd (pi_tup (pv 8)) (blkOk_by (own := [("old", 15), ("new", 16)]) (N := ["script", "pool", "memory", "places", "roots", "told", "other", "behind", "paper", "rows", "own", "roots_behind", "moves", "again", "k", "old", "new"]) (sc := defScope s_law) (by decide +kernel)) (fun _ _ _ _ _ => (pg_tup rfl (pgs_cons (pg_name (i := 15) sc_law.nd rfl (.inl rfl)) (pgs_cons (pg_name (i := 16) sc_law.nd rfl (.inl rfl)) pgs_nil)))) (fun _ _ _ _ _ => pts_nil) (fun _ _ _ _ _ => (pe_tup (pa_cons (pv 15) (pa_cons (pv 15) pa_nil))))) pa_nil)) pa_nil)))) (pa_cons (pe_tup (pa_cons (pv 6) (pa_cons (pv 7) (pa_cons (pe_backF (pv 8)) pa_nil)))) pa_nil)))))), ?_⟩
  intro D H9 a p m l rt t o bh pa L O rs bhv ord pp M N q
  have hbl := M.bl
  -- the first
  refine ⟨_, rfl, _, rfl, 1, rfl, _, rfl, slice_initV N.hbh fun b1 H10 s10 hb1 => ?_⟩
  refine ⟨_, rfl, by show 3 ≤ sizeLine; decide, fun t1 ht1 => ?_⟩
  have s11 : Same H10 (upd H10 t1 (.tup [.ref o, .ref b1, .ref pa])) := (Same.refl _).upd_new ht1
  have N1 := N.same (s10.trans s11)
  have R1 : RowOk K L rs (upd H10 t1 (.tup [.ref o, .ref b1, .ref pa])) t1 := ⟨o, b1, pa, O, bhv.dropLast, pp, SqT.of upd_same, M.pre, N1.ho.sq, (hb1.same s11).sq, by rw [List.length_dropLast]; omega, N1.hpa⟩
  have s911 := s10.trans s11
  generalize upd H10 t1 (.tup [.ref o, .ref b1, .ref pa]) = H11 at s11 R1 s911 N1 ⊢
  -- the second
  refine ⟨_, rfl, _, rfl, _, rfl, 1, rfl, _, rfl, N1.hpa.init fun m2 H12 s12 hm2 => ?_⟩
  refine ⟨by show 3 ≤ sizeLine; decide, fun t2 ht2 => ?_⟩
  have s13 : Same H12 (upd H12 t2 (.tup [.ref o, .ref bh, .ref m2])) := (Same.refl _).upd_new ht2
  have s1113 := s12.trans s13
  have s913 := s911.trans s1113
  have N3 := N.same s913
  have R2 : RowOk K L rs (upd H12 t2 (.tup [.ref o, .ref bh, .ref m2])) t2 := ⟨o, bh, m2, O, bhv, pp.dropLast, SqT.of upd_same, M.coll.pre_fewer M.w M.ro M.few M.perm (List.dropLast_sublist pp), N3.ho.sq, N3.hbh.sq, hbl, hm2.same s13⟩
  generalize upd H12 t2 (.tup [.ref o, .ref bh, .ref m2]) = H13 at s13 R2 s1113 s913 N3 ⊢
  replace R1 := R1.same s1113
  -- the third
  obtain ⟨xs3, hx3, hxl3, hxa3⟩ := N3.hpa.at
  refine ⟨_, rfl, _, rfl, _, rfl, pa, rfl, ⟨_, hx3.sq⟩, fun D3 hD3 => ?_⟩
  refine lc_tup (xs := xs3) (LcQ K L H13 D3 pp fun e => (e.1, st L e.1)) (LcQ.zero hD3) (fun i H' _ h => (hx3.same h.1).sq) ?_ ?_
  · rintro i y H' hi hP
    obtain ⟨z, e, rfl, he, hz⟩ := hxa3 i y hi
    exact ⟨z, _, rfl, hP.1.sqt hz, rfl, _, _, rfl, _, _, rfl, rfl, rfl, _, rfl, _, rfl, by show 2 ≤ sizeLine; decide, fun tt htt => hP.next he hD3 (by have := M.pp8; omega) htt⟩
  · rintro H14 hP
    rw [hxl3] at hP
    refine hP.all fun m3 H15 s15 hm3 => ?_
    refine ⟨by show 3 ≤ sizeLine; decide, fun t3 ht3 => ?_⟩
    have s16 : Same H15 (upd H15 t3 (.tup [.ref m, .ref rt, .ref m3])) := (Same.refl _).upd_new ht3
    have s1316 := s15.trans s16
    have s916 := s913.trans s1316
    have N6 := N.same s916
    have R3 : RowOk K L rs (upd H15 t3 (.tup [.ref m, .ref rt, .ref m3])) t3 := ⟨m, rt, m3, L, rs, pp.map fun e => (e.1, st L e.1), SqT.of upd_same, M.coll.pre_same M.w M.ro M.few M.perm, N6.hm.sq, N6.hr.sq, M.few, hm3.same s16⟩
    generalize upd H15 t3 (.tup [.ref m, .ref rt, .ref m3]) = H16 at s16 R3 s1316 s916 N6 ⊢
    replace R1 := R1.same s1316
    replace R2 := R2.same s1316
    -- the fourth
    refine ⟨_, rfl, _, rfl, _, rfl, N6.hpa.back fun m4 H17 s17 hm4 => ?_⟩
    refine ⟨by show 3 ≤ sizeLine; decide, fun t4 ht4 => ?_⟩
    have s18 : Same H17 (upd H17 t4 (.tup [.ref o, .ref bh, .ref m4])) := (Same.refl _).upd_new ht4
    have s1618 := s17.trans s18
    have s918 := s916.trans s1618
    have N8 := N.same s918
    have R4 : RowOk K L rs (upd H17 t4 (.tup [.ref o, .ref bh, .ref m4])) t4 := ⟨o, bh, m4, O, bhv, pp.reverse, SqT.of upd_same, M.coll.pre_other M.w M.ro M.few M.perm ((List.reverse_perm pp).map _), N8.ho.sq, N8.hbh.sq, hbl, hm4.same s18⟩
    generalize upd H17 t4 (.tup [.ref o, .ref bh, .ref m4]) = H18 at s18 R4 s1618 s918 N8 ⊢
    replace R1 := R1.same s1618
    replace R2 := R2.same s1618
    replace R3 := R3.same s1618
    refine ⟨by show 4 ≤ sizeLine; decide, fun R hR => ?_⟩
    have s19 : Same H18 (upd H18 R (.lst [.ref t1, .ref t2, .ref t3, .ref t4])) := (Same.refl _).upd_new hR
    refine q R _ (N8.same s19) ⟨[t1, t2, t3, t4], upd_same, fun t ht => ?_, rfl⟩
    rcases List.mem_cons.mp ht with rfl | ht
    · exact R1.same s19
    rcases List.mem_cons.mp ht with rfl | ht
    · exact R2.same s19
    rcases List.mem_cons.mp ht with rfl | ht
    · exact R3.same s19
    rw [List.mem_singleton.mp ht]; exact R4.same s19
theorem st9 {cdv : Value} {A : Around} {outer : List Env} {s : Shared} {H0 : Hp} {E : XK} (hr : Room 4 (A.deeper (envOfC "law" (defScope s_law) s.heap.objs.size (He.ga K "law") cdv))) :
    ∃ tt : TS, PS (lawX P w K mg base cdv A outer s H0 E) (lawSt 9) tt ∧ ∀ (D : Ends) (H9 : Hp), ∀ (a p m l rt t o bh pa : Addr) (L O : Rows) (rs bhv : List Int) (ord : List Nat) (pp : List (Nat × Nat)), Math L O rs bhv ord pp → ∀ R : Addr, Nine K L O rs bhv pp H9 m rt o bh pa → RowsAt K L rs H9 R 4 → (∀ H, Nine K L O rs bhv pp H m rt o bh pa → RowsAt K L rs H R 5 → D.nx (slots a p m l rt t o bh pa (some (.ref R)) none none none) H) → tt D (slots a p m l rt t o bh pa (some (.ref R)) none none none) H9 := by
  refine ⟨_, (ps_expr (pe_bm PySem.F.plainAttrs_list PySem.F.slot_list_append PySem.F.type_list_append mt_append (pv 9) (pa_cons (pe_tup (pa_cons (pv 6) (pa_cons (pv 7) (pa_cons (pe_callTy call_tupleF (by rfl) T.tuple (by decide +kernel) (pa_cons (pe_lc (own := [("old", 15), ("new", 16)]) (g := gTup _ 2 (gCons (gName 15) (gCons (gName 16) gNil))) (tt := tYes) (by rfl) sc_law.nd (pi_tup (pv 8)) (blkOk_by (own := [("old", 15), ("new", 16)]) (N := ["script", "pool", "memory", "places", "roots", "told", "other", "behind", "paper", "rows", "own", "roots_behind", "moves", "again", "k", "old", "new"]) (sc := defScope s_law) (by decide +kernel)) (fun _ _ _ _ _ => (pg_tup rfl (pgs_cons (pg_name (i := 15) sc_law.nd rfl (.inl rfl)) (pgs_cons (pg_name (i := 16) sc_law.nd rfl (.inl rfl)) pgs_nil)))) (fun _ _ _ _ _ => pts_nil) (fun _ _ _ _ _ => (pe_tup (pa_cons (pv 15) (pa_cons (pe_ix (r := rIxT K) ix_tup (pe_ix (r := rIxT K) ix_tup (pv 8) pe_int (fun _ _ => rfl)) pe_int (fun _ _ => rfl)) pa_nil))))) pa_nil)) pa_nil)))) pa_nil))), ?_⟩
  intro D H9 a p m l rt t o bh pa L O rs bhv ord pp M R N rows q
  have hbl := M.bl
  obtain ⟨ts, hRts, hts, htl⟩ := rows
  obtain ⟨xs5, hx5, hxl5, hxa5⟩ := N.hpa.at
  refine ⟨_, rfl, .inl ⟨rfl, _, SqL.of hRts⟩, ?_⟩
  refine ⟨_, rfl, _, rfl, _, rfl, pa, rfl, ⟨_, hx5.sq⟩, fun D5 hD5 => ?_⟩
  refine lc_tup (xs := xs5) (LcQ K L H9 D5 pp fun e => (e.1, (pp.headD (0, 0)).2)) (LcQ.zero hD5) (fun i H' _ h => (hx5.same h.1).sq) ?_ ?_
  · rintro i y H' hi hP
    obtain ⟨z, e, rfl, he, hz⟩ := hxa5 i y hi
    have hx50 : 0 < xs5.length := Nat.lt_of_le_of_lt (Nat.zero_le _) (List.getElem?_eq_some_iff.mp hi).1
    obtain ⟨z0, e0, ez0, he0, hz0⟩ := hxa5 0 _ (List.getElem?_eq_getElem hx50)
    have ehd : (pp.headD (0, 0)) = e0 := by
      cases pp with
      | nil => cases he0
      | cons x t => exact Option.some.inj he0
    have at0 : atI xs5 (0 : Int) = some (V.ref z0) := atI_nat (j := 0) (by rw [List.getElem?_eq_getElem hx50, ez0])
    refine ⟨z, _, rfl, hP.1.sqt hz, rfl, _, _, rfl, _, _, rfl, rfl, rfl, _, rfl, _, rfl, pa, _, _, _, rfl, rfl, (hx5.same hP.1).sq, at0, z0, _, _, _, rfl, rfl, hP.1.sqt hz0, atI_nat (j := 1) rfl, by show 2 ≤ sizeLine; decide, fun tt htt => ?_⟩
    have h := hP.next he hD5 (by have := M.pp8; omega) htt
    rw [ehd] at h
    rw [ehd]
    exact h
  · rintro H20 hP
    rw [hxl5] at hP
    refine hP.all fun m5 H21 s21 hm5 => ?_
    refine ⟨by show 3 ≤ sizeLine; decide, fun t5 ht5 => ?_⟩
    have s22 : Same H21 (upd H21 t5 (.tup [.ref o, .ref bh, .ref m5])) := (Same.refl _).upd_new ht5
    have s922 := s21.trans s22
    have N2 := N.same s922
    have pre5 : Pre L O rs (pp.map fun e => (e.1, (pp.headD (0, 0)).2)) := M.coll.pre_other M.w M.ro M.few M.perm (by rw [List.map_map]; exact List.Perm.refl _)
    have R5 : RowOk K L rs (upd H21 t5 (.tup [.ref o, .ref bh, .ref m5])) t5 := ⟨o, bh, m5, O, bhv, _, SqT.of upd_same, pre5, N2.ho.sq, N2.hbh.sq, hbl, hm5.same s22⟩
    have hR22 := s922 _ _ hRts
    have hts22 : ∀ t ∈ ts, RowOk K L rs (upd H21 t5 (.tup [.ref o, .ref bh, .ref m5])) t := fun t ht => (hts t ht).same s922
    generalize upd H21 t5 (.tup [.ref o, .ref bh, .ref m5]) = H22 at s22 s922 R5 hR22 hts22 N2 ⊢
    refine ⟨R, _, _, rfl, rfl, hR22, small1000 (by rw [List.length_map]; omega), ?_⟩
    refine q _ (N2.updL hR22) ⟨ts ++ [t5], by rw [upd_same, List.map_append]; rfl, fun t ht => ?_, by rw [List.length_append, List.length_singleton, htl]⟩
    rcases List.mem_append.mp ht with h | h
    · exact (hts22 t h).updL hR22
    · rw [List.mem_singleton.mp h]; exact R5.updL hR22
end
end K63

set_option Elab.async false
set_option linter.all false
set_option maxRecDepth 100000
set_option maxHeartbeats 8000000
namespace K63
open PySem PySem.Spec PyProof.Rows L2
section
variable {P : Program} {w : World} {K : PySem.W.Frag} {mg : Str → Option Value} {base : Heap} (T : Txt K mg)
include T
theorem st10 {cdv : Value} {A : Around} {outer : List Env} {s : Shared} {H0 : Hp} {E : XK} (hr : Room 4 (A.deeper (envOfC "law" (defScope s_law) s.heap.objs.size (He.ga K "law") cdv))) :
    ∃ tt : TS, PS (lawX P w K mg base cdv A outer s H0 E) (lawSt 10) tt ∧ ∀ (D : Ends) (H9 : Hp), ∀ (a p m l rt t o bh pa : Addr) (L O : Rows) (rs bhv : List Int) (ord : List Nat) (pp : List (Nat × Nat)), Math L O rs bhv ord pp → ∀ R : Addr, Nine K L O rs bhv pp H9 m rt o bh pa → RowsAt K L rs H9 R 5 → (∀ H k, Nine K L O rs bhv pp H m rt o bh pa → RowsAt K L rs H R k → k ≤ 6 → D.nx (slots a p m l rt t o bh pa (some (.ref R)) none none none) H) → tt D (slots a p m l rt t o bh pa (some (.ref R)) none none none) H9 := by
  refine ⟨_, (ps_if (pt_cmpR op_gt (pe_callB call_len_seq (by rfl) T.len (by decide +kernel) (pa_cons (pv 8) pa_nil)) pe_int (nomark _))
    (pss_one (ps_expr (pe_bm PySem.F.plainAttrs_list PySem.F.slot_list_append PySem.F.type_list_append mt_append (pv 9) (pa_cons (pe_tup (pa_cons (pv 6) (pa_cons (pv 7) (pa_cons (pe_op op_catF (pe_tupF (pa_cons (pe_tup (pa_cons (pe_ix (r := rIxT K) ix_tup (pe_ix (r := rIxT K) ix_tup (pv 8) pe_int (fun _ _ => rfl)) pe_int (fun _ _ => rfl)) (pa_cons (pe_ix (r := rIxT K) ix_tup (pe_ix (r := rIxT K) ix_tup (pv 8) pe_int (fun _ _ => rfl)) pe_int (fun _ _ => rfl)) pa_nil))) (pa_cons (pe_tup (pa_cons (pe_ix (r := rIxT K) ix_tup (pe_ix (r := rIxT K) ix_tup (pv 8) pe_int (fun _ _ => rfl)) pe_int (fun _ _ => rfl)) (pa_cons (pe_ix (r := rIxT K) ix_tup (pe_ix (r := rIxT K) ix_tup (pv 8) pe_int (fun _ _ => rfl)) pe_int (fun _ _ => rfl)) pa_nil))) pa_nil))) (pe_slice sl_tupF (pv 8) (po_some pe_int) po_none)) pa_nil)))) pa_nil))))
    pss_nil), ?_⟩
  intro D H9 a p m l rt t o bh pa L O rs bhv ord pp M R N rows q
  have hbl := M.bl
  obtain ⟨xs6, hx6, hxl6, hxa6⟩ := N.hpa.at
  refine ⟨_, rfl, pa, _, rfl, .inr hx6.sq, _, _, rfl, rfl, _, rfl, ?_⟩
  rw [hxl6]
  refine ite2 (fun h6 => ?_) (fun h6 => ?_)
  · have h62 : 2 ≤ pp.length := by have := of_decide_eq_true h6; omega
    obtain ⟨f0, f1, rest, z0, z1, epp, a0, a1, hz0, hz1⟩ := two_of hxa6 hxl6 h62
    have b0 := pr0
    have b1 := pr1
    obtain ⟨ts, hRts, hts, htl⟩ := rows
    refine ⟨_, rfl, .inl ⟨rfl, _, SqL.of hRts⟩, ?_⟩
    refine ⟨_, rfl, _, rfl, ?_⟩
    refine ⟨_, rfl, pa, xs6, 0, _, rfl, rfl, hx6.sq, a0, z0, _, 0, _, rfl, rfl, hz0, b0 _ _, ?_⟩
    refine ⟨_, rfl, pa, xs6, 1, _, rfl, rfl, hx6.sq, a1, z1, _, 1, _, rfl, rfl, hz1, b1 _ _, by show 2 ≤ sizeLine; decide, fun u0 hu0 => ?_⟩
    have s24 : Same H9 (upd H9 u0 (.tup [.int ((st L f0.1 : Nat) : Int), .int ((f1.2 : Nat) : Int)])) := (Same.refl _).upd_new hu0
    have hu04 : SqT K (upd H9 u0 (.tup [.int ((st L f0.1 : Nat) : Int), .int ((f1.2 : Nat) : Int)])) u0 [.int ((st L f0.1 : Nat) : Int), .int ((f1.2 : Nat) : Int)] := SqT.of upd_same
    generalize upd H9 u0 (.tup [.int ((st L f0.1 : Nat) : Int), .int ((f1.2 : Nat) : Int)]) = H24 at s24 hu04 ⊢
    refine ⟨_, rfl, pa, xs6, 1, _, rfl, rfl, (hx6.same s24).sq, a1, z1, _, 0, _, rfl, rfl, s24.sqt hz1, b0 _ _, ?_⟩
    refine ⟨_, rfl, pa, xs6, 0, _, rfl, rfl, (hx6.same s24).sq, a0, z0, _, 1, _, rfl, rfl, s24.sqt hz0, b1 _ _, by show 2 ≤ sizeLine; decide, fun u1 hu1 => ?_⟩
    have s25 : Same H24 (upd H24 u1 (.tup [.int ((st L f1.1 : Nat) : Int), .int ((f0.2 : Nat) : Int)])) := (Same.refl _).upd_new hu1
    have hu15 : SqT K (upd H24 u1 (.tup [.int ((st L f1.1 : Nat) : Int), .int ((f0.2 : Nat) : Int)])) u1 [.int ((st L f1.1 : Nat) : Int), .int ((f0.2 : Nat) : Int)] := SqT.of upd_same
    generalize upd H24 u1 (.tup [.int ((st L f1.1 : Nat) : Int), .int ((f0.2 : Nat) : Int)]) = H25 at s25 hu15 ⊢
    have hu05 := s25.sqt hu04
    refine ⟨by show 2 ≤ sizeLine; decide, fun u2 ou2 hu2 hou2 => ?_⟩
    have s26 : Same H25 (upd H25 u2 (.frz ou2 (.tup [.ref u0, .ref u1]))) := (Same.refl _).upd_new hu2
    have hu26 : TupF (upd H25 u2 (.frz ou2 (.tup [.ref u0, .ref u1]))) u2 [.ref u0, .ref u1] := ⟨ou2, upd_same, hou2⟩
    have hu06 := s26.sqt hu05
    have hu16 := s26.sqt hu15
    generalize upd H25 u2 (.frz ou2 (.tup [.ref u0, .ref u1])) = H26 at s26 hu26 hu06 hu16 ⊢
    have s926 := s24.trans (s25.trans s26)
    obtain ⟨zs7, ezs7, tzs7, hzs7⟩ := N.hpa.same s926
    have hz7l : 2 ≤ (zs7.map fun z => V.ref z.1).length := by
      have h := congrArg List.length ezs7
      rw [List.length_map] at h
      rw [List.length_map]; omega
    refine ⟨_, rfl, 2, rfl, ?_⟩
    dsimp only [tNoPart]
    refine slice_tailF tzs7 hz7l fun u3 H27 s27 hu3 => ?_
    have hcat : ∀ (H' : Hp) (u : Addr), Same H27 H' → TupF H' u ([.ref u0, .ref u1] ++ ((zs7.map fun z => V.ref z.1).drop 2)) → Paper K L H' u ((f0.1, f1.2) :: (f1.1, f0.2) :: rest) := fun H' u s h => by
      refine ⟨(u0, (f0.1, f1.2)) :: (u1, (f1.1, f0.2)) :: zs7.drop 2, ?_, ?_, fun z hz => ?_⟩
      · rw [List.map_cons, List.map_cons, List.map_drop, ← ezs7, epp]; rfl
      · rw [← List.map_drop] at h; exact h
      · rcases List.mem_cons.mp hz with rfl | hz
        · exact (s27.trans s).sqt hu06
        rcases List.mem_cons.mp hz with rfl | hz
        · exact (s27.trans s).sqt hu16
        · exact (s27.trans s).sqt (hzs7 z (List.mem_of_mem_drop hz))
    have pre6 : Pre L O rs ((f0.1, f1.2) :: (f1.1, f0.2) :: rest) := M.coll.pre_other M.w M.ro M.few M.perm (by rw [epp]; exact List.Perm.refl _)
    have fin : ∀ (H' : Hp) (u : Addr), Same H27 H' → Paper K L H' u ((f0.1, f1.2) :: (f1.1, f0.2) :: rest) → ∀ t6, H' t6 = none →
        RowOk K L rs (upd H' t6 (.tup [.ref o, .ref bh, .ref u])) t6 ∧ Nine K L O rs bhv pp (upd H' t6 (.tup [.ref o, .ref bh, .ref u])) m rt o bh pa ∧ (upd H' t6 (.tup [.ref o, .ref bh, .ref u])) R = some (.lst (ts.map V.ref)) ∧ ∀ t ∈ ts, RowOk K L rs (upd H' t6 (.tup [.ref o, .ref bh, .ref u])) t := fun H' u s hu t6 ht6 => by
      have s1 := (s926.trans s27).trans (s.trans ((Same.refl H').upd_new (o := .tup [.ref o, .ref bh, .ref u]) ht6))
      have N1 := N.same s1
      exact ⟨⟨o, bh, u, O, bhv, _, SqT.of upd_same, pre6, N1.ho.sq, N1.hbh.sq, hbl, hu.same ((Same.refl H').upd_new ht6)⟩, N1, s1 _ _ hRts, fun t ht => (hts t ht).same s1⟩
    have app : ∀ (H' : Hp) (t6 : Addr), RowOk K L rs H' t6 → Nine K L O rs bhv pp H' m rt o bh pa → H' R = some (.lst (ts.map V.ref)) → (∀ t ∈ ts, RowOk K L rs H' t) → D.nx (slots a p m l rt t o bh pa (some (.ref R)) none none none) (upd H' R (.lst (ts.map V.ref ++ [V.ref t6]))) := fun H' t6 r6 N6 hR6 ht6 =>
      q _ 6 (N6.updL hR6) ⟨ts ++ [t6], by rw [upd_same, List.map_append]; rfl, fun t ht => by
        rcases List.mem_append.mp ht with h | h
        · exact (ht6 t h).updL hR6
        · rw [List.mem_singleton.mp h]; exact r6.updL hR6, by rw [List.length_append, List.length_singleton, htl]⟩ (by decide)
    have hdl : ((zs7.map fun z => V.ref z.1).drop 2).length ≤ 8 := by
      have h := congrArg List.length ezs7
      rw [List.length_map] at h
      rw [List.length_drop, List.length_map]
      have := M.pp8; omega
    refine ⟨u2, u3, _, _, rfl, rfl, (hu26.same s27).sq, hu3.sq, by simp, Nat.le_of_lt (small1000 (by simp only [List.length_cons, List.length_nil]; omega)), fun hnil => ?_, fun hne u4 ou4 hu4 hou4 => ?_⟩
    · refine ⟨by show 3 ≤ sizeLine; decide, fun t6 ht6 => ?_⟩
      obtain ⟨r6, N6, hR6, hts6⟩ := fin _ u2 (Same.refl _) (hcat _ u2 (Same.refl _) (by rw [hnil, List.append_nil]; exact hu26.same s27)) t6 ht6
      exact ⟨R, _, _, rfl, rfl, hR6, small1000 (by rw [List.length_map]; omega), app _ _ r6 N6 hR6 hts6⟩
    · have s28 : Same H27 (upd H27 u4 (.frz ou4 (.tup ([V.ref u0, V.ref u1] ++ (zs7.map fun z => V.ref z.1).drop 2)))) := (Same.refl _).upd_new hu4
      refine ⟨by show 3 ≤ sizeLine; decide, fun t6 ht6 => ?_⟩
      obtain ⟨r6, N6, hR6, hts6⟩ := fin _ u4 s28 (hcat _ u4 s28 ⟨ou4, upd_same, hou4⟩) t6 ht6
      exact ⟨R, _, _, rfl, rfl, hR6, small1000 (by rw [List.length_map]; omega), app _ _ r6 N6 hR6 hts6⟩
  · exact q _ 5 N rows (by decide)
end
end K63

set_option Elab.async false
set_option linter.all false
set_option maxRecDepth 100000
set_option maxHeartbeats 8000000
namespace K63
open PySem PySem.Spec PyProof.Rows L2
section
variable {P : Program} {w : World} {K : PySem.W.Frag} {mg : Str → Option Value} {base : Heap} (T : Txt K mg)
include T
theorem st0 {cdv : Value} {A : Around} {outer : List Env} {s : Shared} {H0 : Hp} {E : XK} (hr : Room 4 (A.deeper (envOfC "law" (defScope s_law) s.heap.objs.size (He.ga K "law") cdv))) :
    ∃ tt : TS, PS (lawX P w K mg base cdv A outer s H0 E) (lawSt 0) tt ∧ ∀ (D : Ends) (H9 : Hp), ∀ (a : Addr) (ns : List Int), SqL K H9 a (vi ns) → ns.length ≤ 63 → (∀ (H : Hp) (p c : Addr), PoolAt H p c 0 → D.nx [some (.ref a), some (.ref p), none, none, none, none, none, none, none, none, none, none, none, none, none, none, none] H) → tt D [some (.ref a), none, none, none, none, none, none, none, none, none, none, none, none, none, none, none, none] H9 := by
  have G__law_pool := ok_pool (P := P) (w := w) (base := base) T
  have hr2 : Room 2 _ := hr.mono (by decide)
  refine ⟨_, (ps_set (i := 1) sc_law.nd rfl (.inr rfl) (pe_call G__law_pool hr2 (by rfl) T.g__law_pool T.F__law_pool.kp T.b__law_pool .nil pass0 (pa_cons (pv 0) pa_nil))), ?_⟩
  intro D H9 a ns hS hlen q
  exact ⟨_, rfl, a, ns, rfl, hS, hlen, fun H1 p c pool1 => q _ p c pool1⟩
theorem st1 {cdv : Value} {A : Around} {outer : List Env} {s : Shared} {H0 : Hp} {E : XK} (hr : Room 4 (A.deeper (envOfC "law" (defScope s_law) s.heap.objs.size (He.ga K "law") cdv))) :
    ∃ tt : TS, PS (lawX P w K mg base cdv A outer s H0 E) (lawSt 1) tt ∧ ∀ (D : Ends) (H9 : Hp), ∀ (a p c : Addr), PoolAt H9 p c 0 → (∀ (H : Hp) (m l : Addr) (L : Rows) (k2 : Nat), PoolAt H p c k2 → k2 ≤ 200 → Wf L → TupF H m (vi L.flatten) → H l = some (.lst (vi (starts L))) → l ≠ c → D.nx [some (.ref a), some (.ref p), some (.ref m), some (.ref l), none, none, none, none, none, none, none, none, none, none, none, none, none] H) → tt D [some (.ref a), some (.ref p), none, none, none, none, none, none, none, none, none, none, none, none, none, none, none] H9 := by
  have G__law_memory := ok_mem (P := P) (w := w) (base := base) T
  refine ⟨_, (ps_asg (pe_call G__law_memory hr (by rfl) T.g__law_memory T.F__law_memory.kp T.b__law_memory .nil pass0 (pa_cons (pv 1) pa_nil)) (pg_unl rfl (pgs_cons (pg_name (i := 2) sc_law.nd rfl (.inl rfl)) (pgs_cons (pg_name (i := 3) sc_law.nd rfl (.inr rfl)) pgs_nil)))), ?_⟩
  intro D H9 a p c pool1 q
  refine ⟨_, rfl, p, c, 0, rfl, pool1, by omega, fun H2 qq m l L k2 but2 pool2 hk2 w hq hm hl nlc => ?_⟩
  exact ⟨qq, _, rfl, SqL.of hq, rfl, _, _, rfl, _, _, rfl, rfl, q _ m l L k2 pool2 (by omega) w hm hl nlc⟩
theorem st2 {cdv : Value} {A : Around} {outer : List Env} {s : Shared} {H0 : Hp} {E : XK} (hr : Room 4 (A.deeper (envOfC "law" (defScope s_law) s.heap.objs.size (He.ga K "law") cdv))) :
    ∃ tt : TS, PS (lawX P w K mg base cdv A outer s H0 E) (lawSt 2) tt ∧ ∀ (D : Ends) (H9 : Hp), ∀ (a p c m l : Addr) (L : Rows) (k2 : Nat), PoolAt H9 p c k2 → k2 ≤ 200 → Wf L → TupF H9 m (vi L.flatten) → H9 l = some (.lst (vi (starts L))) → l ≠ c → (∀ (H : Hp) (rt : Addr) (rs : List Int), TupF H m (vi L.flatten) → TupF H rt (vi rs) → (∀ v ∈ rs, VOk L v) → rs.length ≤ 4 → D.nx [some (.ref a), some (.ref p), some (.ref m), some (.ref l), some (.ref rt), none, none, none, none, none, none, none, none, none, none, none, none] H) → tt D [some (.ref a), some (.ref p), some (.ref m), some (.ref l), none, none, none, none, none, none, none, none, none, none, none, none, none] H9 := by
  have G__law_draw := ok_draw (P := P) (w := w) (base := base) T
  have G__law_value := ok_value (P := P) (w := w) (base := base) T
  have hr3 : Room 3 _ := hr.mono (by decide)
  have hr1 : Room 1 _ := hr.mono (by decide)
  refine ⟨_, (ps_set (i := 4) sc_law.nd rfl (.inl rfl) (pe_callTy call_tupleF (by rfl) T.tuple (by decide +kernel) (pa_cons (pe_lc (own := [("k", 14)]) (g := gName 14) (tt := tYes) (by rfl) sc_law.nd (pi_range1 (by rfl) T.range (pa_cons (pe_call G__law_draw hr1 (by rfl) T.g__law_draw T.F__law_draw.kp T.b__law_draw .nil pass0 (pa_cons (pv 1) (pa_cons pe_int pa_nil))) pa_nil)) (blkOk_by (own := [("k", 14)]) (N := ["script", "pool", "memory", "places", "roots", "told", "other", "behind", "paper", "rows", "own", "roots_behind", "moves", "again", "k", "old", "new"]) (sc := defScope s_law) (by decide +kernel)) (fun _ _ _ _ _ => (pg_name (i := 14) sc_law.nd rfl (.inl rfl))) (fun _ _ _ _ _ => pts_nil) (fun _ _ _ _ _ => (pe_call G__law_value hr3 (by rfl) T.g__law_value T.F__law_value.kp T.b__law_value .nil pass0 (pa_cons (pv 1) (pa_cons (pv 3) pa_nil))))) pa_nil))), ?_⟩
  intro D9 H2 a p c m l L k2 pool2 hk2 w hm hl nlc q
  refine ⟨_, rfl, p, c, k2, 5, rfl, pool2, by omega, by decide, fun H3 n hn but3 pool3 => ?_⟩
  refine ⟨((n : Nat) : Int), rfl, by omega, by omega, fun D hD => ?_⟩
  have nDc : D ≠ c := fun z => by
    obtain ⟨o, ho⟩ := pool3.cell
    rw [z, ho] at hD; cases hD
  refine lc_range (lo := 0) (fun i H' => ∃ (k' : Nat) (rs : List Int), rs.length = i ∧ (∀ v ∈ rs, VOk L v) ∧ But c H3 H' ∧ PoolAt H' p c k' ∧ k' ≤ k2 + 1 + 2 * i ∧ H' D = some (.lst (vi rs)))
    ⟨k2 + 1, [], rfl, by simp, ((Same.refl H3).upd_new hD).but c, pool3.upd hD, Nat.le_refl _, upd_same⟩ ?_ ?_
  · rintro i H4 hi ⟨k', rs, hrs, hro, but4, pool4, hk4, hD4⟩
    have hi5 : i < 5 := by
      have h : i < n := hi
      omega
    have hlL : (starts L).length ≤ 1000 := by unfold starts; rw [List.length_map, List.length_range]; have := w.many; omega
    refine ⟨rfl, _, rfl, _, rfl, p, c, l, k', starts L, rfl, pool4, by omega, but4 _ _ nlc (but3 _ _ nlc hl), nlc, hlL, fun H5 v k5 hk5 but5 pool5 hv => ?_⟩
    have hD5 := but5 _ _ nDc hD4
    refine ⟨_, hD5, small1000 (by rw [vi_len]; omega), k5, rs ++ [v], by simp [hrs], fun u hu => ?_, ?_, ?_, by omega, ?_⟩
    · rcases List.mem_append.mp hu with h | h
      · exact hro u h
      · rw [List.mem_singleton.mp h]
        rcases hv with hv | ⟨z, hz, ez⟩
        · exact .inl hv
        · unfold starts at hz
          obtain ⟨j, hj, ej⟩ := List.mem_map.mp hz
          exact .inr ⟨j, List.mem_range.mp hj, by rw [ez, ← ej]⟩
    · intro a' o' n' e'
      rw [upd_ne (ne_of_none e' hD)]; exact but5 _ _ n' (but4 _ _ n' e')
    · obtain ⟨r', ns', g1, g2, g3, g4⟩ := pool5
      obtain ⟨r1, ns1, f1, f2, f3, f4⟩ := pool3
      have f5 := but5 _ _ f4.1 (but4 _ _ f4.1 f1)
      rw [g1] at f5
      have f6 : r' = r1 := by simpa using f5
      have n1 : p ≠ D := ne_of_none f1 hD
      have n2 : r' ≠ D := by rw [f6]; exact ne_of_none f2 hD
      exact ⟨r', ns', by rw [upd_ne n1]; exact g1, by rw [upd_ne n2]; exact g2, by rw [upd_ne nDc.symm]; exact g3, g4⟩
    · rw [upd_same]; unfold vi; rw [List.map_append]; rfl
  · rintro H4 ⟨k', rs, hrs, hro, but4, pool4, hk4, hD4⟩
    have hfew : rs.length ≤ 4 := by
      have h : rs.length = n := hrs
      omega
    obtain ⟨_, _, _, _, hc2, _⟩ := pool2
    obtain ⟨_, _, _, _, hc3, _⟩ := pool3
    have hm4 : TupF H4 m (vi L.flatten) := but4.tupF (but3.tupF hm hc2) hc3
    refine ⟨D, _, rfl, SqL.of hD4, fun rt ro hrt hrod => ?_⟩
    have s5 : Same H4 (upd H4 rt (.frz ro (.tup (vi rs)))) := (Same.refl H4).upd_new hrt
    exact q _ rt rs (hm4.same s5) ⟨ro, upd_same, hrod⟩ hro hfew
theorem st3 {cdv : Value} {A : Around} {outer : List Env} {s : Shared} {H0 : Hp} {E : XK} (hr : Room 4 (A.deeper (envOfC "law" (defScope s_law) s.heap.objs.size (He.ga K "law") cdv))) :
    ∃ tt : TS, PS (lawX P w K mg base cdv A outer s H0 E) (lawSt 3) tt ∧ ∀ (D : Ends) (H9 : Hp), ∀ (a p m l rt : Addr) (L : Rows) (rs : List Int), Wf L → TupF H9 m (vi L.flatten) → TupF H9 rt (vi rs) → (∀ v ∈ rs, VOk L v) → rs.length ≤ 4 → (∀ (H : Hp) (t o bh pa : Addr) (O : Rows) (bhv : List Int) (ord : List Nat) (pp : List (Nat × Nat)), H t = some (.tup [.ref o, .ref bh, .ref pa]) → Nine K L O rs bhv pp H m rt o bh pa → Math L O rs bhv ord pp → (pp.map fun e => ((st L e.1 : Nat) : Int)).Pairwise (· < ·) → D.nx [some (.ref a), some (.ref p), some (.ref m), some (.ref l), some (.ref rt), some (.ref t), none, none, none, none, none, none, none, none, none, none, none] H) → tt D [some (.ref a), some (.ref p), some (.ref m), some (.ref l), some (.ref rt), none, none, none, none, none, none, none, none, none, none, none, none] H9 := by
  have G_collected := ok_collected (P := P) (w := w) (base := base) T
  refine ⟨_, (ps_set (i := 5) sc_law.nd rfl (.inl rfl) (pe_call G_collected hr (by rfl) T.g_collected T.F_collected.kp T.b_collected .nil pass0 (pa_cons (pv 2) (pa_cons (pv 4) pa_nil)))), ?_⟩
  intro D H5 a p m l rt L rs w hm5 hr5 hro hfew q
  refine ⟨_, rfl, _, rfl, m, rt, L, rs, rfl, w, hm5.sq, hr5.sq, hro, hfew, fun H6 t o bh pa ord O bhv pp s6 ht ho hbh hpa coll hperm hpw => ?_⟩
  exact q _ t o bh pa O bhv ord pp ht ⟨hm5.same s6, hr5.same s6, ho, hbh, hpa⟩ ⟨w, hro, hfew, coll, hperm⟩ hpw
theorem st4 {cdv : Value} {A : Around} {outer : List Env} {s : Shared} {H0 : Hp} {E : XK} (hr : Room 4 (A.deeper (envOfC "law" (defScope s_law) s.heap.objs.size (He.ga K "law") cdv))) :
    ∃ tt : TS, PS (lawX P w K mg base cdv A outer s H0 E) (lawSt 4) tt ∧ ∀ (D : Ends) (H9 : Hp), ∀ (a p m l rt t o bh pa : Addr), H9 t = some (.tup [.ref o, .ref bh, .ref pa]) → D.nx [some (.ref a), some (.ref p), some (.ref m), some (.ref l), some (.ref rt), some (.ref t), none, none, none, none, none, none, none, none, none, none, none] H9 → tt D [some (.ref a), some (.ref p), some (.ref m), some (.ref l), some (.ref rt), some (.ref t), none, none, none, none, none, none, none, none, none, none, none] H9 := by
  refine ⟨_, (ps_if (PW.pt (pw_or (pt_not (pt_val (pe_callB call_isi (by rfl) T.isinstance (by decide +kernel) (pa_cons (pv 5) (pa_cons (pe_bltn (v := .ty "tuple") rfl T.tuple (by decide +kernel) rfl) pa_nil))))) (pw_or1 (pt_cmpR op_ne (pe_callB call_len_seq (by rfl) T.len (by decide +kernel) (pa_cons (pv 5) pa_nil)) pe_int (nomark _)))))
    (pss_one (ps_ret pe_bl))
    pss_nil), ?_⟩
  intro D H6 a p m l rt t o bh pa ht q
  refine ⟨_, rfl, _, _, _, _, true, rfl, .ty _, .base (.tup ht), kit_ty (by decide +kernel), _, rfl, iteF ?_⟩
  exact ⟨_, rfl, t, _, rfl, .inr (SqT.of ht), rfl, _, rfl, iteNS rfl q⟩
theorem st5 {cdv : Value} {A : Around} {outer : List Env} {s : Shared} {H0 : Hp} {E : XK} (hr : Room 4 (A.deeper (envOfC "law" (defScope s_law) s.heap.objs.size (He.ga K "law") cdv))) :
    ∃ tt : TS, PS (lawX P w K mg base cdv A outer s H0 E) (lawSt 5) tt ∧ ∀ (D : Ends) (H9 : Hp), ∀ (a p m l rt t o bh pa : Addr), H9 t = some (.tup [.ref o, .ref bh, .ref pa]) → D.nx [some (.ref a), some (.ref p), some (.ref m), some (.ref l), some (.ref rt), some (.ref t), some (.ref o), some (.ref bh), some (.ref pa), none, none, none, none, none, none, none, none] H9 → tt D [some (.ref a), some (.ref p), some (.ref m), some (.ref l), some (.ref rt), some (.ref t), none, none, none, none, none, none, none, none, none, none, none] H9 := by
  refine ⟨_, (ps_asg (pv 5) (pg_tup rfl (pgs_cons (pg_name (i := 6) sc_law.nd rfl (.inl rfl)) (pgs_cons (pg_name (i := 7) sc_law.nd rfl (.inl rfl)) (pgs_cons (pg_name (i := 8) sc_law.nd rfl (.inr rfl)) pgs_nil))))), ?_⟩
  intro D H6 a p m l rt t o bh pa ht q
  exact ⟨_, rfl, t, _, rfl, SqT.of ht, rfl, _, _, rfl, _, _, rfl, _, _, rfl, rfl, q⟩
theorem st6 {cdv : Value} {A : Around} {outer : List Env} {s : Shared} {H0 : Hp} {E : XK} (hr : Room 4 (A.deeper (envOfC "law" (defScope s_law) s.heap.objs.size (He.ga K "law") cdv))) :
    ∃ tt : TS, PS (lawX P w K mg base cdv A outer s H0 E) (lawSt 6) tt ∧ ∀ (D : Ends) (H9 : Hp), ∀ (a p m l rt t o bh pa : Addr) (L O : Rows) (rs bhv : List Int) (ord : List Nat) (pp : List (Nat × Nat)), Math L O rs bhv ord pp → Nine K L O rs bhv pp H9 m rt o bh pa → (∀ H, Nine K L O rs bhv pp H m rt o bh pa → D.nx [some (.ref a), some (.ref p), some (.ref m), some (.ref l), some (.ref rt), some (.ref t), some (.ref o), some (.ref bh), some (.ref pa), none, none, none, none, none, none, none, none] H) → tt D [some (.ref a), some (.ref p), some (.ref m), some (.ref l), some (.ref rt), some (.ref t), some (.ref o), some (.ref bh), some (.ref pa), none, none, none, none, none, none, none, none] H9 := by
  have G__law_right := ok_law_right (P := P) (w := w) (base := base) T
  have G_check_collected := ok_check (P := P) (w := w) (base := base) T
  have hr3 : Room 3 _ := hr.mono (by decide)
  have hr2 : Room 2 _ := hr.mono (by decide)
  refine ⟨_, (ps_if (PW.pt (pw_or (pt_not (pt_val (pe_call G__law_right hr2 (by rfl) T.g__law_right T.F__law_right.kp T.b__law_right .nil pass0 (pa_cons (pv 2) (pa_cons (pv 4) (pa_cons (pv 6) (pa_cons (pv 7) (pa_cons (pv 8) pa_nil)))))))) (pw_or1 (pt_cmpR op_isnot_bl (pe_call G_check_collected hr3 (by rfl) T.g_check_collected T.F_check_collected.kp T.b_check_collected .nil pass0 (pa_cons (pv 2) (pa_cons (pv 4) (pa_cons (pv 6) (pa_cons (pv 7) (pa_cons (pv 8) pa_nil)))))) pe_bl (nomark _)))))
    (pss_one (ps_ret pe_bl))
    pss_nil), ?_⟩
  intro D H6 a p m l rt t o bh pa L O rs bhv ord pp M N q
  refine ⟨_, rfl, _, rfl, _, rfl, _, rfl, _, rfl, m, rt, o, bh, pa, L, O, rs, bhv, pp, rfl, M.pre, N.hm.sq, N.hr.sq, N.ho.sq, N.hbh.sq, M.bl, N.hpa, fun H7 c1 s7 h1 => ?_⟩
  have e1 : c1 = true := h1.mpr (M.coll.judge M.w M.perm)
  subst e1
  have N7 := N.same s7
  refine ⟨_, rfl, iteF ?_⟩
  refine ⟨_, rfl, _, rfl, _, rfl, _, rfl, _, rfl, m, rt, o, bh, pa, L, O, rs, bhv, pp, rfl, M.pre, N7.hm.sq, N7.hr.sq, N7.ho.sq, N7.hbh.sq, M.bl, N7.hpa, fun H8 c2 s8 h2 => ?_⟩
  have e2 : c2 = true := h2.mpr (M.coll.judge M.w M.perm)
  subst e2
  exact ⟨_, _, rfl, rfl, _, rfl, iteNS rfl (q _ (N7.same s8))⟩
theorem st7 {cdv : Value} {A : Around} {outer : List Env} {s : Shared} {H0 : Hp} {E : XK} (hr : Room 4 (A.deeper (envOfC "law" (defScope s_law) s.heap.objs.size (He.ga K "law") cdv))) :
    ∃ tt : TS, PS (lawX P w K mg base cdv A outer s H0 E) (lawSt 7) tt ∧ ∀ (D : Ends) (H9 : Hp), ∀ (a p m l rt t o bh pa : Addr) (L O : Rows) (rs bhv : List Int) (ord : List Nat) (pp : List (Nat × Nat)), Math L O rs bhv ord pp → (pp.map fun e => ((st L e.1 : Nat) : Int)).Pairwise (· < ·) → Nine K L O rs bhv pp H9 m rt o bh pa → (∀ H, Nine K L O rs bhv pp H m rt o bh pa → D.nx [some (.ref a), some (.ref p), some (.ref m), some (.ref l), some (.ref rt), some (.ref t), some (.ref o), some (.ref bh), some (.ref pa), none, none, none, none, none, none, none, none] H) → tt D [some (.ref a), some (.ref p), some (.ref m), some (.ref l), some (.ref rt), some (.ref t), some (.ref o), some (.ref bh), some (.ref pa), none, none, none, none, none, none, none, none] H9 := by
  have G__law_up := ok_up (P := P) (w := w) (base := base) T
  have G__law_kind := ok_kindT (P := P) (w := w) (base := base) T
  have G__law_equal := ok_equalT (P := P) (w := w) (base := base) T
  have hr3 : Room 3 _ := hr.mono (by decide)
  have hr1 : Room 1 _ := hr.mono (by decide)
  refine ⟨_, (ps_if (PW.pt (pw_or (pt_not (pt_val (pe_call G__law_up hr1 (by rfl) T.g__law_up T.F__law_up.kp T.b__law_up .nil pass0 (pa_cons (pv 8) pa_nil)))) (pw_or (pt_cmpR op_ne (pe_call G__law_kind hr1 (by rfl) T.g__law_kind T.F__law_kind.kp T.b__law_kind .nil pass0 (pa_cons (pv 6) pa_nil)) (pe_call G__law_kind hr1 (by rfl) T.g__law_kind T.F__law_kind.kp T.b__law_kind .nil pass0 (pa_cons (pe_tup pa_nil) pa_nil)) (nomark _)) (pw_or1 (pt_not (pt_val (pe_call G__law_equal hr3 (by rfl) T.g__law_equal T.F__law_equal.kp T.b__law_equal .nil pass0 (pa_cons (pv 6) (pa_cons (pe_callTy call_tupleT (by rfl) T.tuple (by decide +kernel) (pa_cons (pv 6) pa_nil)) pa_nil)))))))))
    (pss_one (ps_ret pe_bl))
    pss_nil), ?_⟩
  intro D H8 a p m l rt t o bh pa L O rs bhv ord pp M hpw N q
  refine ⟨_, rfl, pa, L, pp, rfl, N.hpa, M.pp8, hpw, _, rfl, iteF ?_⟩
  refine ⟨_, rfl, o, rfl, N.ho.ty, by show 0 ≤ sizeLine; decide, fun em hem => ?_⟩
  have s9 : Same H8 (upd H8 em (.tup [])) := (Same.refl H8).upd_new hem
  refine ⟨em, rfl, .base (.tup upd_same), rfl, _, rfl, iteNS rfl ?_⟩
  have N9 := N.same s9
  have hOl := flat_small (M.coll.wf M.w)
  exact ⟨_, rfl, _, rfl, o, _, rfl, N9.ho.sq, o, O.flatten, rfl, N9.ho.ty, N9.ho.sq, by omega, _, rfl, iteF (q _ N9)⟩
theorem st11 {cdv : Value} {A : Around} {outer : List Env} {s : Shared} {H0 : Hp} {E : XK} (hr : Room 4 (A.deeper (envOfC "law" (defScope s_law) s.heap.objs.size (He.ga K "law") cdv))) :
    ∃ tt : TS, PS (lawX P w K mg base cdv A outer s H0 E) (lawSt 11) tt ∧ ∀ (D : Ends) (H9 : Hp), ∀ (a p m l rt t o bh pa : Addr) (L O : Rows) (rs bhv : List Int) (ord : List Nat) (pp : List (Nat × Nat)) (R : Addr) (k : Nat), Math L O rs bhv ord pp → Nine K L O rs bhv pp H9 m rt o bh pa → RowsAt K L rs H9 R k → k ≤ 6 → (∀ H x10 x11 x12, Nine K L O rs bhv pp H m rt o bh pa → D.nx (slots a p m l rt t o bh pa (some (.ref R)) x10 x11 x12) H) → tt D (slots a p m l rt t o bh pa (some (.ref R)) none none none) H9 := by
  have G__law_right := ok_law_right (P := P) (w := w) (base := base) T
  have G_check_collected := ok_check (P := P) (w := w) (base := base) T
  have G__law_is := ok_is (P := P) (w := w) (base := base) T
  have hr3 : Room 3 _ := hr.mono (by decide)
  have hr2 : Room 2 _ := hr.mono (by decide)
  have hr1 : Room 1 _ := hr.mono (by decide)
  refine ⟨_, (ps_for PassesOwn.never rfl (pi_list (pv 9)) (pg_tup rfl (pgs_cons (pg_name (i := 10) sc_law.nd rfl (.inl rfl)) (pgs_cons (pg_name (i := 11) sc_law.nd rfl (.inl rfl)) (pgs_cons (pg_name (i := 12) sc_law.nd rfl (.inl rfl)) pgs_nil))))
    (pss_one (ps_if (pt_not (pt_val (pe_call G__law_is hr1 (by rfl) T.g__law_is T.F__law_is.kp T.b__law_is .nil pass0 (pa_cons (pe_call G_check_collected hr3 (by rfl) T.g_check_collected T.F_check_collected.kp T.b_check_collected .nil pass0 (pa_cons (pv 2) (pa_cons (pv 4) (pa_cons (pv 10) (pa_cons (pv 11) (pa_cons (pv 12) pa_nil)))))) (pa_cons (pe_call G__law_right hr2 (by rfl) T.g__law_right T.F__law_right.kp T.b__law_right .nil pass0 (pa_cons (pv 2) (pa_cons (pv 4) (pa_cons (pv 10) (pa_cons (pv 11) (pa_cons (pv 12) pa_nil)))))) pa_nil)))))
    (pss_one (ps_ret pe_bl))
    pss_nil))), ?_⟩
  intro D H9 a p m l rt t o bh pa L O rs bhv ord pp R k M N rows hk q
  obtain ⟨ts, hRts, hts, htl⟩ := rows
  refine ⟨_, rfl, R, rfl, ⟨_, SqL.of hRts⟩, ?_⟩
  refine for_list (K := K) (a := R) (xs := ts.map V.ref) (fun i σ H' => ∃ x10 x11 x12 : Option V, σ = slots a p m l rt t o bh pa (some (.ref R)) x10 x11 x12 ∧ Same H9 H') ⟨none, none, none, rfl, Same.refl _⟩ (fun i σ H' _ ⟨_, _, _, _, s⟩ => SqL.of (s _ _ hRts)) ?_ ?_
  · rintro i y σ H' hi ⟨x10, x11, x12, rfl, s1⟩
    obtain ⟨t1, h1, rfl⟩ : ∃ t1, t1 ∈ ts ∧ y = V.ref t1 := by
      rw [List.getElem?_map] at hi
      cases e : ts[i]? with
      | none => rw [e] at hi; cases hi
      | some u => rw [e] at hi; exact ⟨u, List.mem_of_getElem? e, (Option.some.inj hi).symm⟩
    obtain ⟨o', b', m', O', bv, qq, g1, g2, g3, g4, g5, g6⟩ := (hts t1 h1).same s1
    have N1 := N.same s1
    refine ⟨t1, _, rfl, g1, rfl, _, _, rfl, _, _, rfl, _, _, rfl, rfl, ?_⟩
    refine ⟨_, rfl, _, rfl, _, rfl, _, rfl, _, rfl, m, rt, o', b', m', L, O', rs, bv, qq, rfl, g2, N1.hm.sq, N1.hr.sq, g3, g4, g5, g6, fun H2 c1 s2 e1 => ?_⟩
    have N2 := N1.same s2
    refine ⟨_, rfl, _, rfl, _, rfl, _, rfl, _, rfl, m, rt, o', b', m', L, O', rs, bv, qq, rfl, g2, N2.hm.sq, N2.hr.sq, s2.sqt g3, s2.sqt g4, g5, g6.same s2, fun H3 c2 s3 e2 => ?_⟩
    have ec : c1 = c2 := by
      cases c1 <;> cases c2
      · rfl
      · exact absurd (e1.mpr (e2.mp rfl)) (by decide)
      · exact absurd (e2.mpr (e1.mp rfl)) (by decide)
      · rfl
    subst ec
    exact ⟨c1, rfl, _, rfl, iteF ⟨_, _, _, rfl, (s1.trans s2).trans s3⟩⟩
  · rintro σ H' ⟨x10, x11, x12, rfl, s1⟩
    exact q _ _ _ _ (N.same s1)
theorem st12 {cdv : Value} {A : Around} {outer : List Env} {s : Shared} {H0 : Hp} {E : XK} (hr : Room 4 (A.deeper (envOfC "law" (defScope s_law) s.heap.objs.size (He.ga K "law") cdv))) :
    ∃ tt : TS, PS (lawX P w K mg base cdv A outer s H0 E) (lawSt 12) tt ∧ ∀ (D : Ends) (H9 : Hp), ∀ (a p m l rt t o bh pa : Addr) (L O : Rows) (rs bhv : List Int) (ord : List Nat) (pp : List (Nat × Nat)) (R : Addr) (x10 x11 x12 : Option V), Math L O rs bhv ord pp → Nine K L O rs bhv pp H9 m rt o bh pa → (∀ (H : Hp) (ag o2 b2 p2 : Addr) (O2 : Rows) (bh2 : List Int) (ord2 : List Nat) (pp2 : List (Nat × Nat)), H ag = some (.tup [.ref o2, .ref b2, .ref p2]) → TupF H o (vi O.flatten) → TupF H bh (vi bhv) → TupF H o2 (vi O2.flatten) → TupF H b2 (vi bh2) → Paper K O H p2 pp2 → Math O O2 bhv bh2 ord2 pp2 → O2.flatten.length = O.flatten.length → D.nx [some (.ref a), some (.ref p), some (.ref m), some (.ref l), some (.ref rt), some (.ref t), some (.ref o), some (.ref bh), some (.ref pa), some (.ref R), x10, x11, x12, some (.ref ag), none, none, none] H) → tt D (slots a p m l rt t o bh pa (some (.ref R)) x10 x11 x12) H9 := by
  have G_collected := ok_collected (P := P) (w := w) (base := base) T
  refine ⟨_, (ps_set (i := 13) sc_law.nd rfl (.inl rfl) (pe_call G_collected hr (by rfl) T.g_collected T.F_collected.kp T.b_collected .nil pass0 (pa_cons (pv 6) (pa_cons (pv 7) pa_nil)))), ?_⟩
  intro D H9 a p m l rt t o bh pa L O rs bhv ord pp R x10 x11 x12 M N q
  have wO := M.coll.wf M.w
  have vb := M.coll.bhok M.w
  refine ⟨_, rfl, _, rfl, o, bh, O, bhv, rfl, wO, N.ho.sq, N.hbh.sq, vb, M.bl, fun H6 ag o2 b2 p2 ord2 O2 bh2 pp2 s6 ht ho2 hb2 hp2 coll2 perm2 _ => ?_⟩
  have N6 := N.same s6
  exact q _ ag o2 b2 p2 O2 bh2 ord2 pp2 ht N6.ho N6.hbh ho2 hb2 hp2 ⟨wO, vb, M.bl, coll2, perm2⟩ (M.coll.again M.w coll2)
theorem st13 {cdv : Value} {A : Around} {outer : List Env} {s : Shared} {H0 : Hp} {E : XK} (hr : Room 4 (A.deeper (envOfC "law" (defScope s_law) s.heap.objs.size (He.ga K "law") cdv))) :
    ∃ tt : TS, PS (lawX P w K mg base cdv A outer s H0 E) (lawSt 13) tt ∧ ∀ (D : Ends) (H9 : Hp), ∀ (a p m l rt t o bh pa R : Addr) (O : Rows) (bhv : List Int) (x10 x11 x12 : Option V) (ag o2 b2 p2 : Addr) (O2 : Rows) (bh2 : List Int) (ord2 : List Nat) (pp2 : List (Nat × Nat)), H9 ag = some (.tup [.ref o2, .ref b2, .ref p2]) → TupF H9 o (vi O.flatten) → TupF H9 bh (vi bhv) → TupF H9 o2 (vi O2.flatten) → TupF H9 b2 (vi bh2) → Paper K O H9 p2 pp2 → Math O O2 bhv bh2 ord2 pp2 → O2.flatten.length = O.flatten.length → (∀ H, D.rt (.bl true) H) → tt D [some (.ref a), some (.ref p), some (.ref m), some (.ref l), some (.ref rt), some (.ref t), some (.ref o), some (.ref bh), some (.ref pa), some (.ref R), x10, x11, x12, some (.ref ag), none, none, none] H9 := by
  have G__law_right := ok_law_right (P := P) (w := w) (base := base) T
  have hr2 : Room 2 _ := hr.mono (by decide)
  refine ⟨_, (ps_ret (pe_and (pe_cmpR op_eq (pe_callB call_len_seq (by rfl) T.len (by decide +kernel) (pa_cons (pe_ix (r := rIxT K) ix_tup (pv 13) pe_int (fun _ _ => rfl)) pa_nil)) (pe_callB call_len_seq (by rfl) T.len (by decide +kernel) (pa_cons (pv 6) pa_nil)) (nomark _)) (pe_one (pe_call G__law_right hr2 (by rfl) T.g__law_right T.F__law_right.kp T.b__law_right .nil pass0 (pa_cons (pv 6) (pa_cons (pv 7) (pa_cons (pe_ix (r := rIxT K) ix_tup (pv 13) pe_int (fun _ _ => rfl)) (pa_cons (pe_ix (r := rIxT K) ix_tup (pv 13) pe_int (fun _ _ => rfl)) (pa_cons (pe_ix (r := rIxT K) ix_tup (pv 13) pe_int (fun _ _ => rfl)) pa_nil))))))))), ?_⟩
  intro D H9 a p m l rt t o bh pa R O bhv x10 x11 x12 ag o2 b2 p2 O2 bh2 ord2 pp2 ht ho hb ho2 hb2 hp2 M e q
  have i0 : atI [V.ref o2, V.ref b2, V.ref p2] (0 : Int) = some (V.ref o2) := atI_nat (j := 0) rfl
  have i1 : atI [V.ref o2, V.ref b2, V.ref p2] (1 : Int) = some (V.ref b2) := atI_nat (j := 1) rfl
  have i2 : atI [V.ref o2, V.ref b2, V.ref p2] (2 : Int) = some (V.ref p2) := atI_nat (j := 2) rfl
  refine ⟨_, rfl, ag, _, _, _, rfl, rfl, SqT.of ht, i0, o2, _, rfl, .inr ho2.sq, _, rfl, o, _, rfl, .inr ho.sq, rfl, ?_⟩
  rw [vi_len, vi_len, e]
  refine ⟨true, by simp, iteT ?_⟩
  refine ⟨_, rfl, _, rfl, _, rfl, ag, _, _, _, rfl, rfl, SqT.of ht, i0, _, rfl, ag, _, _, _, rfl, rfl, SqT.of ht, i1, _, rfl, ag, _, _, _, rfl, rfl, SqT.of ht, i2, o, bh, o2, b2, p2, O, O2, bhv, bh2, pp2, rfl, M.pre, ho.sq, hb.sq, ho2.sq, hb2.sq, M.bl, hp2, fun H' c s' h => ?_⟩
  have ec : c = true := h.mpr (M.coll.judge M.w M.perm)
  subst ec
  exact q _
end
end K63

set_option Elab.async false
set_option linter.all false
set_option maxRecDepth 100000
set_option maxHeartbeats 8000000
namespace K63
open PySem PySem.Spec PyProof.Rows L2
def spLaw (K : PySem.W.Frag) : Sp := fun vs H Q _ => ∃ (a : Addr) (ns : List Int), vs = [.ref a] ∧ SqL K H a (ns.map V.int) ∧ ns.length ≤ 63 ∧ ∀ H', Q (.bl true) H'
section
variable {P : Program} {w : World} {K : PySem.W.Frag} {mg : Str → Option Value} {base : Heap} (T : Txt K mg)
include T
theorem ok_law : FnOk P w K mg base CX0 5 (He.ga K "law") T.d_law ["script"] (spLaw K) := by
  refine T.F_law.ok sc_law (fun vs H Q E h => ?_) (fun cdv A outer s H vs Q E hr h => ?_)
  · obtain ⟨a, ns, rfl, _⟩ := h; rfl
  · obtain ⟨a, ns, rfl, hS, hlen, q⟩ := h
    obtain ⟨t0, h0, r0⟩ := st0 (P := P) (w := w) (base := base) T (outer := outer) (H0 := H) (E := E) hr
    obtain ⟨t1, h1, r1⟩ := st1 (P := P) (w := w) (base := base) T (outer := outer) (H0 := H) (E := E) hr
    obtain ⟨t2, h2, r2⟩ := st2 (P := P) (w := w) (base := base) T (outer := outer) (H0 := H) (E := E) hr
    obtain ⟨t3, h3, r3⟩ := st3 (P := P) (w := w) (base := base) T (outer := outer) (H0 := H) (E := E) hr
    obtain ⟨t4, h4, r4⟩ := st4 (P := P) (w := w) (base := base) T (outer := outer) (H0 := H) (E := E) hr
    obtain ⟨t5, h5, r5⟩ := st5 (P := P) (w := w) (base := base) T (outer := outer) (H0 := H) (E := E) hr
    obtain ⟨t6, h6, r6⟩ := st6 (P := P) (w := w) (base := base) T (outer := outer) (H0 := H) (E := E) hr
    obtain ⟨t7, h7, r7⟩ := st7 (P := P) (w := w) (base := base) T (outer := outer) (H0 := H) (E := E) hr
    obtain ⟨t8, h8, r8⟩ := st8 (P := P) (w := w) (base := base) T (outer := outer) (H0 := H) (E := E) hr
    obtain ⟨t9, h9, r9⟩ := st9 (P := P) (w := w) (base := base) T (outer := outer) (H0 := H) (E := E) hr
    obtain ⟨t10, h10, r10⟩ := st10 (P := P) (w := w) (base := base) T (outer := outer) (H0 := H) (E := E) hr
    obtain ⟨t11, h11, r11⟩ := st11 (P := P) (w := w) (base := base) T (outer := outer) (H0 := H) (E := E) hr
    obtain ⟨t12, h12, r12⟩ := st12 (P := P) (w := w) (base := base) T (outer := outer) (H0 := H) (E := E) hr
    obtain ⟨t13, h13, r13⟩ := st13 (P := P) (w := w) (base := base) T (outer := outer) (H0 := H) (E := E) hr
    refine ⟨_, PSs.nox (pss_cons h0 (pss_cons h1 (pss_cons h2 (pss_cons h3 (pss_cons h4 (pss_cons h5 (pss_cons h6 (pss_cons h7 (pss_cons h8 (pss_cons h9 (pss_cons h10 (pss_cons h11 (pss_cons h12 (pss_one h13)))))))))))))), ?_⟩
    refine r0 _ _ a ns hS hlen fun H1 p c pool1 => ?_
    refine r1 _ _ a p c pool1 fun H2 m l L k2 pool2 hk2 wL hm hl nlc => ?_
    refine r2 _ _ a p c m l L k2 pool2 hk2 wL hm hl nlc fun H3 rt rs hm3 hr3 hro hfew => ?_
    refine r3 _ _ a p m l rt L rs wL hm3 hr3 hro hfew fun H4 t o bh pa O bhv ord pp ht N M hpw => ?_
    refine r4 _ _ a p m l rt t o bh pa ht ?_
    refine r5 _ _ a p m l rt t o bh pa ht ?_
    refine r6 _ _ a p m l rt t o bh pa L O rs bhv ord pp M N fun H6 N6 => ?_
    refine r7 _ _ a p m l rt t o bh pa L O rs bhv ord pp M hpw N6 fun H7 N7 => ?_
    refine r8 _ _ a p m l rt t o bh pa L O rs bhv ord pp M N7 fun R H8 N8 R8 => ?_
    refine r9 _ _ a p m l rt t o bh pa L O rs bhv ord pp M R N8 R8 fun H9 N9 R9 => ?_
    refine r10 _ _ a p m l rt t o bh pa L O rs bhv ord pp M R N9 R9 fun H10 k N10 R10 hk => ?_
    refine r11 _ _ a p m l rt t o bh pa L O rs bhv ord pp R k M N10 R10 hk fun H11 x10 x11 x12 N11 => ?_
    refine r12 _ _ a p m l rt t o bh pa L O rs bhv ord pp R x10 x11 x12 M N11 fun H12 ag o2 b2 p2 O2 bh2 ord2 pp2 hag ho hb ho2 hb2 hp2 M2 e => ?_
    exact r13 _ _ a p m l rt t o bh pa R O bhv x10 x11 x12 ag o2 b2 p2 O2 bh2 ord2 pp2 hag ho hb ho2 hb2 hp2 M2 e fun H' => q H'
end
theorem law_of {P : Program} {w : World} {K : PySem.W.Frag} {h : Heap} {mg : Str → Option Value} {f : Addr} (X : K.In h) (G : h.Ns mainGlobals mg) (hfa : mg ("law" : Str) = some (.ref f)) (c : He.SaysD faL fnL K) :
    ∃ fd : FuncData, (∀ (s : Shared) (v : Value), BindsTo s fd ⟨[v], []⟩ [("script", v)]) ∧ ∀ base : Heap, K.In base → base.Ns mainGlobals mg → FnOk P w K mg base CX0 5 f fd ["script"] (spLaw K) := by
  obtain ⟨T⟩ := txt_of X G c
  have e := hfa.symm.trans T.g_law
  cases e
  have b := FunD.bindsA (ps := ["script"]) T.F_law fun _ _ _ _ _ _ us hl => match us, hl with | [_], _ => rfl
  exact ⟨T.d_law, fun s v => b s [v] rfl, fun base _ _ => ok_law T⟩
end K63
open PySem PySem.W PySem.Calls PyProof.Rows in
theorem PySem.Challenge.cw_wholedown_k63_whole_collections_are_judg_holds : PySem.Challenge.rw_wholedown_k63_whole_collections_are_judg.Holds := by
  w_on; o_law
  refine HandSHeadRun.head_any (r := OpenLaw.row PySem.Challenge.rw_wholedown_k63_whole_collections_are_judg) (q := view (OpenLaw.row PySem.Challenge.rw_wholedown_k63_whole_collections_are_judg).prog [26]) (H := K63.hk) (ob := K63.ob) (M := 20000) (loose := K63.looseN) (d := HandSHeadRun.topDef (OpenLaw.row PySem.Challenge.rw_wholedown_k63_whole_collections_are_judg).prog 26) (kwd := []) K63.ob_eq
    (by kernel_rfl) (fun s => by kernel_rfl) K63.run (by kernel_rfl) (by kernel_rfl) (by kernel_rfl) (by rfl) (by first | assumption | decide +kernel) (by decide +kernel) ⟨rfl, rfl, rfl, rfl, rfl, by decide +kernel⟩ ?hw ?hc
  case hw => w_witness2
  case hc =>
    refine L2.walk_ofE (l := PySem.Challenge.rw_wholedown_k63_whole_collections_are_judg) (n := 63) (k := 5) (x := "script") (CX := L2.CX0) rfl (by decide) (by kernel_rfl) ⟨rfl, by decide, by decide⟩ ?F (fun _ _ _ _ z => z)
    intro w mg fa h Y G hmg0
    obtain ⟨K, KX, c⟩ := Y
    have hmg : mg ("law" : PySem.Str) = some (.ref fa) := by
      have e : (HandSHeadRun.topDef (OpenLaw.row PySem.Challenge.rw_wholedown_k63_whole_collections_are_judg).prog 26).name = ("law" : PySem.Str) := by kernel_rfl
      rw [← e]
      exact hmg0
    obtain ⟨fd, hb, hF⟩ := K63.law_of (P := (PySem.Challenge.rw_wholedown_k63_whole_collections_are_judg).prog) (w := w) KX G hmg c
    exact ⟨K, fd, K63.spLaw K, KX, hb, fun H a ns hl _ hS => ⟨a, ns, rfl, hS, hl, fun _ => rfl⟩, hF⟩


