import PyProof.Rows.All
import Wide.All
import OpenK.AllK
import Wide.FinOn
import PyProof.Rows.SortStr
import HandS.ForMost
import HandS.Set
import HandS.SetFor
import HandS.Strs
import PyProof.P3Statements
import PyProof.Lay0
import KE.KStateDown
import HandS.Defaults
import HandS.Head0
import HandS.Head1
import HandS.Head2
import HandS.HeadEnd
import HandS.HeadHook1
import HandS.HeadHook2
import PySem.Challenge.RW_wholedown_k01_whole_kinds
import HandS.TupAny
import HandS.IsInst
import HandS.Zip
import HandS.Walk
import HandS.Text
import HandS.Flow
import HandS.Star
import HandS.More
set_option Elab.async false
set_option linter.all false
set_option maxRecDepth 100000
set_option maxHeartbeats 8000000
/-! Rules that the layer lacks: set(list of texts), sorted(set of texts). The proofs are those of HandS.Set and HandS.SetFor for ints, turned to texts. -/
namespace R01
open PySem PySem.Spec PyProof.Rows L2
def txOf (e : Int × Value) : Str := PyProof.Rows.strOf e.2
def GoodT (w : World) (e : Int × Value) : Prop := ∃ x tk, e.2 = Value.str x tk ∧ e.1 = hashStr w x
/-- the set of texts at a -/
def SetT (w : World) (h : Heap) (a : Addr) (S : Str → Bool) (n : Nat) : Prop :=
  ∃ o es ep t, h.get? a = some o ∧ o.ExactSet ∧ o.data = .set es ep t ∧ (∀ e ∈ es.toList, GoodT w e) ∧ (es.toList.map txOf).Nodup ∧ (∀ k, S k = true ↔ k ∈ es.toList.map txOf) ∧
    es.size < scanBound ∧ t.fits es.size = true ∧ es.size = n ∧ Ris t.place.toList ∧ (w.params.followText "set-order" = true ∨ t.led = true)
section
variable {P : Program} {w : World} {h h' : Heap} {a : Addr} {S : Str → Bool} {n : Nat}
theorem SetT.at (R : SetT w h a S n) (k : ∀ o, h.get? a = some o → h'.get? a = some o) : SetT w h' a S n := let ⟨o, es, ep, t, ho, r⟩ := R; ⟨o, es, ep, t, k o ho, r⟩
theorem SetT.congr {S' : Str → Bool} (R : SetT w h a S n) (e : ∀ k, S' k = S k) : SetT w h a S' n := (funext e : S' = S) ▸ R
theorem goodT_elems {l : List (Int × Value)} (g : ∀ e ∈ l, GoodT w e) : ElemsOf (PySem.strKind P w) l := fun e he => by
  obtain ⟨k, tk, h1, h2⟩ := g e he
  exact ⟨⟨k, by rw [h1]; exact PySem.strKind_is P w k tk, h2⟩, by rw [h1] <;> rfl⟩
theorem goodT_is {e : Int × Value} (g : GoodT w e) (k : Str) : (PySem.strKind P w).is k e.2 = true ↔ txOf e = k := by
  obtain ⟨k0, tk, h1, _⟩ := g
  unfold txOf
  rw [h1]
  show ((k0 == k) = true) ↔ k0 = k
  exact beq_iff_eq
theorem goodT_mem {l : List (Int × Value)} (g : ∀ e ∈ l, GoodT w e) (k : Str) : k ∈ l.map txOf ↔ ∃ e ∈ l, (PySem.strKind P w).is k e.2 = true := by
  rw [List.mem_map]
  exact ⟨fun ⟨e, he, q⟩ => ⟨e, he, (goodT_is (g e he) k).2 q⟩, fun ⟨e, he, q⟩ => ⟨e, he, (goodT_is (g e he) k).1 q⟩⟩
theorem setT_new_at {ns : List Str} (ho : h.get? a = some { cls := .type "set", dict := none, data := .set #[] 0 (.fresh 0 0 (!w.params.followText "set-order")) }) : SetT w h a (fun j => decide (j ∈ ns.take 0)) 0 :=
  ⟨_, #[], 0, _, ho, ⟨rfl, rfl, rfl⟩, rfl, (fun e he => by simp at he), (by simp), (fun k => by simp), (by decide), (by rfl), rfl, List.Pairwise.nil, by
    show _ ∨ (!w.params.followText "set-order") = true
    cases w.params.followText "set-order"
    · exact .inr rfl
    · exact .inl rfl⟩
theorem strs_are : ∀ (l : List Value), (∀ v ∈ l, ∃ k tk, v = Value.str k tk) → StrsAre l (l.map PyProof.Rows.strOf)
  | [], _ => .nil
  | v :: l, h => by
    obtain ⟨k, tk, rfl⟩ := h v List.mem_cons_self
    exact .cons k tk (strs_are l fun u hu => h u (List.mem_cons_of_mem _ hu))
end
section
variable {P : Program} {w : World} {A : Around} {E : Value → Shared → Prop} {s : Shared} {a : Addr} {S : Str → Bool} {n : Nat}
theorem setT_tail {g : Bool → Sem Unit} (hg : ∀ (b : Bool) (s₁ : Shared) (Q' : Unit → Shared → Prop), Q' () s₁ → wpAny (model P w) A (g b) Q' E s₁)
    {o : Obj} {es : Array (Int × Value)} {ep : Nat} {t : SetTable} (ho : s.heap.get? a = some o) (hex : o.ExactSet) (hd : o.data = .set es ep t)
    {es1 : Array (Int × Value)} {t2 : SetTable} {S' : Str → Bool} (g1 : ∀ e ∈ es1.toList, GoodT w e) (nd1 : (es1.toList.map txOf).Nodup) (m1 : ∀ k, S' k = true ↔ k ∈ es1.toList.map txOf)
    (hb1 : es1.size < scanBound) (hf2 : t2.fits es1.size = true) (hr : Ris t2.place.toList) (hl : w.params.followText "set-order" = true ∨ t2.led = true) {wasDummy : Bool} {R : Option Bool → Shared → Prop}
    (hR : ∀ h', Heap.SameBut a s.heap h' → SetT w h' a S' es1.size → R (some true) { s with heap := h' }) :
    wpAny (model P w) A (do
        storeSet a es1 t2
        if (!wasDummy && t2.tooFull) = true then do
            g (relayAll t2 es1 (SetTable.grown es1.size)).2.2
            storeSet a (relayAll t2 es1 (SetTable.grown es1.size)).1 (relayAll t2 es1 (SetTable.grown es1.size)).2.1
            pure (some true)
          else pure (some true)) R E s := by
  refine wpAny_bind (wpAny_storeSet_of ho hd ?_ (fits_of_scanBound hb1))
  have ho1 := store_at (es' := es1) (t' := t2) ho hd
  have sb1 := Heap.SameBut.update s.heap a (Obj.putSet es1 t2)
  split
  · have pm := relayAll_perm t2 es1 (SetTable.grown es1.size)
    have hf3 := relayAll_fits t2 es1 (SetTable.grown es1.size)
    have hr3 := relayAll_ris t2 es1 (SetTable.grown es1.size)
    have hl3 := relayAll_led t2 es1 (SetTable.grown es1.size)
    generalize relayAll t2 es1 (SetTable.grown es1.size) = Z at pm hf3 hr3 hl3 ⊢
    obtain ⟨es2, t3, gave⟩ := Z
    dsimp only at pm hf3 hr3 hl3 ⊢
    have hsz : es2.size = es1.size := by rw [← Array.length_toList, pm.length_eq, Array.length_toList]
    have hb2 : es2.size < scanBound := by rw [hsz]; exact hb1
    refine wpAny_bind (hg _ _ _ ?_)
    refine wpAny_bind (wpAny_storeSet_of ho1 rfl ?_ (fits_of_scanBound hb2))
    have ho2 := store_at (es' := es2) (t' := t3) ho1 rfl
    refine wpAny_pure (hR _ (sb1.trans (Heap.SameBut.update _ a _)) ?_)
    exact ⟨_, es2, _, t3, ho2, hex, rfl, fun e he => g1 e (pm.mem_iff.mp he), (pm.map txOf).nodup_iff.mpr nd1, fun k => (m1 k).trans (pm.map txOf).mem_iff.symm, hb2, hf3, hsz, hr3,
      hl.imp id fun z => by rw [hl3]; exact z⟩
  · exact wpAny_pure (hR _ sb1 ⟨_, es1, _, t2, ho1, hex, rfl, g1, nd1, m1, hb1, hf2, rfl, hr, hl⟩)

theorem setT_put {k : Str} {tk : Tok} {Q : Bool → Shared → Prop} (R : SetT w s.heap a S n) (room : n + 1 < scanBound)
    (hQ : ∀ h', Heap.SameBut a s.heap h' → SetT w h' a (fun j => S j || decide (j = k)) (if S k = true then n else n + 1) → Q (!S k) { s with heap := h' }) :
    wpAny (model P w) A (setAddHashed a (.str k tk) ((PySem.strKind P w).hash k)) Q E s := by
  obtain ⟨o, es, ep, t, ho, hex, hd, g, nd, hm, hb, hf, hn, hr, hl⟩ := R
  have hkey : (PySem.strKind P w).is k (.str k tk) = true := PySem.strKind_is P w k tk
  have hsc : (Value.str k tk).scannable = true := rfl
  have hel : ElemsOf (PySem.strKind P w) es.toList := goodT_elems g
  unfold setAddHashed setAddHashedIn
  refine wpAny_holding (wpAny_bind (wpAny_setState_of ho hd hf ?_))
  dsimp only
  rw [byScan_of hsc hb hel]
  simp only [↓reduceIte]
  unfold setAddByScan
  refine wpAny_bind ?_
  refine wpAny_bind (wpAny_rule ?_)
  refine wpAny_bind (wpAny_setScan_of hkey ho hd hf hel ?_)
  cases hfi : List.findIdx? (fun e => (PySem.strKind P w).is k e.2) es.toList with
  | some j =>
    dsimp only
    obtain ⟨hj, pj, _⟩ := List.findIdx?_eq_some_iff_getElem.mp hfi
    have hSk : S k = true := (hm k).2 ((goodT_mem (P := P) g k).2 ⟨es.toList[j], List.getElem_mem hj, pj⟩)
    refine wpAny_pure (wpAny_pure ?_)
    have q := hQ s.heap (Heap.SameBut.refl a s.heap) ⟨o, es, ep, t, ho, hex, hd, g, nd, fun i => by
      rw [Bool.or_eq_true, decide_eq_true_eq, ← hm i]
      exact ⟨fun z => z.elim id (fun e => e ▸ hSk), .inl⟩, hb, hf, by rw [if_pos hSk]; exact hn, hr, hl⟩
    rw [hSk] at q
    exact q
  | none =>
    dsimp only
    have hnk : k ∉ es.toList.map txOf := fun z => by
      obtain ⟨e, he, q⟩ := (goodT_mem (P := P) g k).1 z
      have c := List.findIdx?_eq_none_iff.mp hfi e he
      rw [q] at c
      cases c
    have hSk : S k = false := by
      cases q : S k with
      | false => rfl
      | true => exact absurd ((hm k).1 q) hnk
    have hgw : ∀ (b : Bool) {s₁ : Shared} {Q' : Unit → Shared → Prop}, Q' () s₁ → wpAny (model P w) A (match b with | true => rule "set.scan.the-table-gave-way" | false => pure ()) Q' E s₁ :=
      fun b s₁ Q' q => by cases b <;> first | exact wpAny_pure q | exact wpAny_rule q
    have pm := layNew_perm t es ((PySem.strKind P w).hash k) (.str k tk)
    have hf1 := layNew_fits t es ((PySem.strKind P w).hash k) (.str k tk)
    have hr1 := layNew_ris t es ((PySem.strKind P w).hash k) (.str k tk) hr
    have hl1 := layNew_led t es ((PySem.strKind P w).hash k) (.str k tk)
    generalize layNew t es ((PySem.strKind P w).hash k) (.str k tk) = Z at pm hf1 hr1 hl1 ⊢
    obtain ⟨es1, t1, wasDummy, gave⟩ := Z
    dsimp only at pm hf1 hr1 hl1 ⊢
    rw [Array.toList_push] at pm
    have pc : es1.toList.Perm (((PySem.strKind P w).hash k, Value.str k tk) :: es.toList) := pm.trans (List.perm_append_singleton _ _)
    have pk : (es1.toList.map txOf).Perm (k :: es.toList.map txOf) := pc.map txOf
    have g1 : ∀ e ∈ es1.toList, GoodT w e := fun e he => by
      rcases List.mem_cons.mp (pc.mem_iff.mp he) with z | z
      · rw [z]; exact ⟨k, tk, rfl, rfl⟩
      · exact g e z
    have nd1 : (es1.toList.map txOf).Nodup := pk.nodup_iff.mpr (List.nodup_cons.mpr ⟨hnk, nd⟩)
    have m1 : ∀ i, (S i || decide (i = k)) = true ↔ i ∈ es1.toList.map txOf := fun i => by
      rw [Bool.or_eq_true, decide_eq_true_eq, hm i, pk.mem_iff, List.mem_cons]
      exact Or.comm
    have hsz : es1.size = n + 1 := by rw [← Array.length_toList, pc.length_eq, List.length_cons, Array.length_toList, hn]
    have hb1 : es1.size < scanBound := by rw [hsz]; exact room
    have hled : w.params.followText "set-order" = true ∨ t1.led = true := hl.imp id fun z => by rw [hl1]; exact z
    have fin : ∀ h', Heap.SameBut a s.heap h' → SetT w h' a (fun j => S j || decide (j = k)) es1.size → Q true { s with heap := h' } := fun h' sb r => by
      have q := hQ h' sb
      rw [hSk] at q
      rw [hsz] at r
      exact q r
    refine wpAny_bind (hgw _ ?_)
    split
    · refine wpAny_bind ?_
      rw [hashByValue_scannable 8 hsc]
      refine wpAny_pure ?_
      refine setT_tail ?_ ho hex hd g1 nd1 m1 hb1 ?_ ?_ ?_ ?_
      · intro b s₁ Q' q; cases b <;> first | exact wpAny_pure q | exact wpAny_rule q
      · first | (split <;> first | exact hf1 | exact SetTable.fits_plain_off hf1) | exact hf1
      · first | (split <;> exact hr1) | exact hr1
      · first | (split <;> exact hled) | exact hled
      · intro h' sb r; dsimp only; exact wpAny_pure (fin h' sb r)
    · refine wpAny_bind (wpAny_pure ?_)
      simp only [↓reduceIte]
      refine setT_tail ?_ ho hex hd g1 nd1 m1 hb1 hf1 hr1 hled ?_
      · intro b s₁ Q' q; cases b <;> first | exact wpAny_pure q | exact wpAny_rule q
      · intro h' sb r; dsimp only; exact wpAny_pure (fin h' sb r)

end
section
variable {P : Program} {w : World} {A : Around} {E : Value → Shared → Prop} {s : Shared}
theorem setT_loop {I : Addr} {fp wr : List Addr} {G : Array GenState → Array GenState → Prop} {n : Nat} {Pv : Nat → Value → Prop} {St : Nat → Shared → Prop} {R : Result → Shared → Prop}
    (W : WalksS P w A.in1 I fp wr G n Pv St) (S : Addr) (hSf : S ∉ fp) (ns : List Str) (hn : n = ns.length) (hb : ns.length + 1 < scanBound) (hval : ∀ i v, Pv i v → ∃ k t, ns[i]? = some k ∧ v = .str k t) :
    ∀ (k i : Nat) (s : Shared), n - i = k → i ≤ n → St i s → (∃ c, c ≤ i ∧ SetT w s.heap S (fun j => decide (j ∈ ns.take i)) c) →
      (∀ s' c, Moved (S :: wr) G s s' → c ≤ n → SetT w s'.heap S (fun j => decide (j ∈ ns)) c → R (.ok (.ret .none)) s') →
      codeAny (model P w) A (.builtin "set.update.loop" ⟨[.ref S, .ref I], []⟩) R s := by
  have hSw : S ∉ wr := fun h => hSf (W.sub _ h)
  have hsub : ∀ b ∈ wr, b ∈ S :: wr := fun b hb => List.mem_cons_of_mem _ hb
  intro k
  induction k with
  | zero =>
    intro i s hk' hi hst ⟨c, hc, hS⟩ hR
    have hin : i = n := by omega
    subst hin
    refine codeAny_builtin F.entry_set_update_loop ?_
    rw [Around.under_plainId F.plain_set_update_loop _]
    show wpAny _ A.in1 (pyNext (.ref I) >>= _) _ _ s
    refine wpAny_bind (W.done s _ _ hst fun s' hm => ?_)
    show wpAny _ A.in1 (ret Value.none) _ _ s'
    have e : ns.take i = ns := List.take_of_length_le (by omega)
    rw [e] at hS
    exact wpAny_pure (hR s' c (hm.mono hsub) hc (hS.at fun o e => hm.heap S o hSw e))
  | succ k ih =>
    intro i s hk' hi hst ⟨c, hc, hS⟩ hR
    have hlt : i < n := by omega
    refine codeAny_builtin F.entry_set_update_loop ?_
    rw [Around.under_plainId F.plain_set_update_loop _]
    show wpAny _ A.in1 (pyNext (.ref I) >>= _) _ _ s
    refine wpAny_bind (W.item i s _ _ hlt hst fun v s' hP hst' hm => ?_)
    obtain ⟨z, t, hz, rfl⟩ := hval i v hP
    have hS' : SetT w s'.heap S (fun j => decide (j ∈ ns.take i)) c := hS.at fun o e => hm.heap S o hSw e
    show wpAny _ A.in1 (holding [Value.str z t] (setAdd S (.str z t)) >>= _) _ _ s'
    refine wpAny_bind (wpAny_holding ?_)
    unfold setAdd
    refine wpAny_holding ?_
    refine wpAny_bind ((PySem.strKind P w).pyHash (k := z) (PySem.strKind_is _ _ _ _) ?_)
    refine setT_put (s := { s' with toks := s'.toks + 1 }) hS' (by omega) fun h' hsb hS2 => ?_
    have hS3 : SetT w h' S (fun j => decide (j ∈ ns.take (i + 1))) (if decide (z ∈ ns.take i) = true then c else c + 1) := hS2.congr fun j => by
      rw [List.take_add_one, hz]
      simp [List.mem_append]
    have hc3 : (if decide (z ∈ ns.take i) = true then c else c + 1) ≤ i + 1 := by
      split <;> omega
    refine wpAny_pure ⟨plainId_quiet F.plain_set_update_loop _, ih (i + 1) _ (by omega) hlt (W.frame _ s' _ _ hst' (Nat.le_succ _) fun b hb o e => ?_) ⟨_, hc3, hS3⟩ fun s'' c2 hm'' hc'' hS'' => ?_⟩
    · rw [hsb.2 b (fun h : b = S => hSf (by rw [← h]; exact hb))]; exact e
    · refine hR s'' c2 (Moved.trans W.gtrans ((hm.mono hsub).then_heap (Nat.le_succ _) fun b o hb e => ?_) hm'') hc'' hS''
      rw [hsb.2 b (fun h : b = S => hb (by rw [h]; exact List.mem_cons_self))]; exact e

set_option maxRecDepth 100000 in
set_option maxHeartbeats 8000000 in
theorem call_setT {l : Addr} {items : Array Value} (ns : List Str) {Q : Value → Shared → Prop} (hh : A.handled = none) (hl : s.heap.IsList l items) (hit : StrsAre items.toList ns) (hb : ns.length + 1 < scanBound)
    (h : ∀ (h' : Heap) (tk c : Nat), SetT w h' s.heap.objs.size (fun j => decide (j ∈ ns)) c → c ≤ ns.length → (∀ b o, s.heap.get? b = some o → h'.get? b = some o) → Q (.ref s.heap.objs.size) { s with heap := h', toks := tk }) :
    wpAny (model P w) A (call (.type "set") [.ref l]) Q E s := by
  have hisz : items.size = ns.length := by
    have q := StrsAre.length hit
    rw [Array.length_toList] at q
    exact q
  obtain ⟨c, tl, hmro⟩ := F.called_set.mro
  have hmade := F.called_set.made
  have hsub := F.called_set.sub
  refine wpAny_call (codeAny_of_tree ?_)
  show wpAny _ _ (callAny (.type "set") _) _ _ _
  refine wpAny_pure ⟨Code.quiet_builtin _ (by decide +kernel), codeAny_builtin F.entry_type_call ?_⟩
  rw [Around.under_plain (weight_type_call_type "set" [.ref l] []) rfl]
  have h1 := F.called_set.notType
  have h2 := F.called_set.canCreate
  have hct := F.typeCall_set_1 (.ref l)
  repeat (any_goals (first | assumption | wp_step))

  refine codeAny_mono (L2.code_set_led1 (.ref l) (E := E) (Q₁ := fun obj s₁ => obj = .ref s.heap.objs.size ∧ s₁ = { s with heap := s.heap.push { cls := .type "set", dict := none, data := .set #[] 0 (.fresh 0 0 (!w.params.followText "set-order")) } }) ⟨rfl, rfl⟩) fun r s₁ hr => ?_
  cases r with
  | error e => exact hr
  | ok fl =>
    cases fl with
    | ret obj =>
      obtain ⟨rfl, rfl⟩ := hr
      have hS : (s.heap.push { cls := .type "set", dict := none, data := .set #[] 0 (.fresh 0 0 (!w.params.followText "set-order")) }).get? s.heap.objs.size = some { cls := .type "set", dict := none, data := .set #[] 0 (.fresh 0 0 (!w.params.followText "set-order")) } := Heap.get?_push_size _ rfl
      have hT : Shared.TypeIs { s with heap := s.heap.push { cls := .type "set", dict := none, data := .set #[] 0 (.fresh 0 0 (!w.params.followText "set-order")) } } (.ref s.heap.objs.size) "set" := ⟨_, hS, rfl⟩
      have hli := F.called_set.init.lookup
      have hbi := F.called_set.init.bind (.ref s.heap.objs.size)
      repeat (any_goals (first | assumption | wp_step))

      refine codeAny_mono (codeAny_call_builtin (R := wants (fun r s₂ => r = .none ∧ ∃ h' tk c, s₂ = { s with heap := h', toks := tk } ∧ SetT w h' s.heap.objs.size (fun j => decide (j ∈ ns)) c ∧ c ≤ ns.length ∧
          (∀ b o, s.heap.get? b = some o → h'.get? b = some o)) E) F.called_set.init.plain F.entry_set_init (check_set_init_1 hT ?_)) fun r₂ s₂ hr₂ => ?_
      · obtain ⟨ol, hol, hcl, nl, hdl⟩ := hl
        obtain ⟨ocls, odict, odata, oslots⟩ := ol
        simp only at hcl hdl
        subst hcl; subst hdl
        have hol' : (s.heap.push { cls := .type "set", dict := none, data := .set #[] 0 (.fresh 0 0 (!w.params.followText "set-order")) }).get? l = some { cls := .type "list", dict := odict, data := .seq items nl, slots := oslots } := Heap.get?_push_of_some _ hol
        have hsls := F.sub_list_set
        have hslf := F.sub_list_frozenset
        have hne : (Value.type "list" == Value.type "dict") = false := by decide
        have hl1 : (s.heap.push { cls := .type "set", dict := none, data := .set #[] 0 (.fresh 0 0 (!w.params.followText "set-order")) }).IsList l items := ⟨_, hol', rfl, nl, rfl⟩
        unfold Builtin.«set.__init__» noKeywords Builtin.Frozenset.updateFrom
        generalize hPI : pyIter = PI
        wp_walk
        subst hPI

        refine wpAny_pyIter_list hl1 ?_
        refine wpAny_bind (wpAny_runValue ?_)
        have hlS : l < s.heap.objs.size := Heap.lt_size hol
        have hh3 : A.in1.in1.in1.handled = none := by simp [hh]
        have hz1 : (s.heap.push { cls := .type "set", dict := none, data := .set #[] 0 (.fresh 0 0 (!w.params.followText "set-order")) }).objs.size = s.heap.objs.size + 1 := Heap.size_push ..
        have hneI : l ≠ (s.heap.push { cls := .type "set", dict := none, data := .set #[] 0 (.fresh 0 0 (!w.params.followText "set-order")) }).objs.size := by
          rw [Heap.size_push]; exact Nat.ne_of_lt (Nat.lt_succ_of_lt hlS)
        have hSf : s.heap.objs.size ∉ [(s.heap.push { cls := .type "set", dict := none, data := .set #[] 0 (.fresh 0 0 (!w.params.followText "set-order")) }).objs.size, l] := by
          rw [Heap.size_push]; simp only [List.mem_cons, List.mem_singleton, List.not_mem_nil, or_false, not_or]
          exact ⟨Nat.ne_of_lt (Nat.lt_succ_self _), Nat.ne_of_gt hlS⟩
        have hval : ∀ (i : Nat) (v : Value), items[i]? = some v → ∃ k t, ns[i]? = some k ∧ v = .str k t := fun i v hv => by
          have hi : i < ns.length := by rw [← hisz]; exact (Array.getElem?_eq_some_iff.mp hv).1
          obtain ⟨y, t, e, hy⟩ := PyProof.Rows.StrsAre.item hit i v (by rw [Array.getElem?_toList]; exact hv)
          exact ⟨y, t, hy, e⟩
        refine setT_loop ((Walks.list hh3 _ l hneI items).toS) s.heap.objs.size
          hSf ns hisz hb hval (items.size - 0) 0 _ (by omega) (Nat.zero_le _)
          ⟨⟨_, Heap.get?_push_size _ rfl, rfl, rfl⟩, (hl1.push _)⟩ ?hS0 ?hR
        case hS0 =>
          have hget : ((s.heap.push { cls := .type "set", dict := none, data := .set #[] 0 (.fresh 0 0 (!w.params.followText "set-order")) }).push { cls := .type "list_iterator", data := .fields #[.ref l, .int 0 0] }).get? s.heap.objs.size
              = some { cls := .type "set", dict := none, data := .set #[] 0 (.fresh 0 0 (!w.params.followText "set-order")) } := Heap.get?_push_of_some _ hS
          exact ⟨0, Nat.le_refl 0, setT_new_at hget⟩
        case hR =>
          intro s' c' hm hc' hS'
          obtain ⟨h', g2, d', tk', os'⟩ := s'
          have eg : g2 = s.gens := hm.gens
          have ed : d' = s.drawn := hm.drawn
          have eo : os' = s.os := hm.os
          subst eg; subst ed; subst eo
          show wpAny _ _ _ _ _ _
          refine wpAny_pure ?_
          show wpAny _ _ (ret Value.none) _ _ _
          rw [hisz] at hc'
          refine wpAny_pure ⟨rfl, h', tk', c', rfl, hS', hc', fun b o e => ?_⟩
          have hb0 : b < s.heap.objs.size := Heap.lt_size e
          have hb1 : b ≠ s.heap.objs.size := Nat.ne_of_lt hb0
          have hb2 : b ≠ (s.heap.push { cls := .type "set", dict := none, data := .set #[] 0 (.fresh 0 0 (!w.params.followText "set-order")) }).objs.size := by
            rw [Heap.size_push]; exact Nat.ne_of_lt (Nat.lt_succ_of_lt hb0)
          exact hm.heap b o (by simp only [List.mem_cons, List.mem_singleton, List.not_mem_nil, or_false, not_or]; exact ⟨hb1, hb2⟩) (Heap.get?_push_of_some _ (Heap.get?_push_of_some _ e))

      · cases r₂ with
        | error e => exact hr₂
        | ok fl₂ =>
          cases fl₂ with
          | ret r =>
            obtain ⟨rfl, h', tk, c', rfl, hS', hc', hk'⟩ := hr₂
            repeat (any_goals (first | assumption | wp_step))
            exact h _ _ _ hS' hc' hk'
          | _ => exact hr₂.elim
    | _ => exact hr.elim

end
section
variable {P : Program} {w : World} {A : Around} {E : Value → Shared → Prop} {s : Shared} {a : Addr}
theorem sorted_setS {S : Str → Bool} {n : Nat} {Q : Value → Shared → Prop} (R : SetT w s.heap a S n) (hh : A.handled = none) (h64 : n < 64)
    (hQ : ∀ s' p (out : Array Value) (c : Nat) (ns : List Str), (∀ b o, s.heap.get? b = some o → s'.heap.get? b = some o) → s'.gens = s.gens → s'.os = s.os → s.heap.objs.size ≤ p →
      s'.heap.get? p = some (seqObj "list" out c) → StrsAre out.toList ns → sortedS ns = true ∧ ns.Nodup → (∀ k, k ∈ ns ↔ S k = true) → ns.length = n → Q (.ref p) s') :
    wpAny (model P w) A (call (.builtin "sorted") [.ref a]) Q E s := by
  obtain ⟨o, es, ep, t, ho, hex, hd, g, nd, hm, hb, hf, hn, hr, hl⟩ := R
  refine Calls.call_function_entry kind_sorted plain_sorted entry_sorted (args_sorted1 _) ?_
  unfold Builtin.«sorted»
  refine wpAny_bind (m := checkCount "sorted" 1 1 _) (wpAny_pure ?_)
  refine wpAny_bind (collect_set (A := A.in1) hh ⟨o, ho, hex.1, hd⟩ hf hb hr hl fun s1 vs k1 hz g1 o1 pm => ?_)
  have hvl : vs.length = n := by rw [pm.length_eq, List.length_map, Array.length_toList]; exact hn
  have hI : StrsAre vs (vs.map PyProof.Rows.strOf) := strs_are vs fun v hv => by
    obtain ⟨e, he, q⟩ := List.mem_map.mp (pm.mem_iff.mp hv)
    obtain ⟨k, tk, h1, _⟩ := g e he
    exact ⟨k, tk, by rw [← q]; exact h1⟩
  have pk : (vs.map PyProof.Rows.strOf).Perm (es.toList.map txOf) := by
    have q := pm.map PyProof.Rows.strOf
    rw [List.map_map] at q
    exact q
  refine wpAny_bind (wpAny_newList ?_ (by rw [hvl, sizeLine_eq]; omega))
  have hoL : (s1.heap.push (seqObj "list" vs.toArray 0)).get? s1.heap.objs.size = some (seqObj "list" vs.toArray 0) := Heap.get?_push_size _ rfl
  refine wpAny_bind (wpAny_holding (wpAny_call_entry slot_list_sort ⟨_, hoL, rfl⟩ entry_list_sort (list_sort_treeK strKind_oneLt hoL hI.keysOf (fun v₁ v₂ rest e => keyKind_strs (by rw [← e]; exact hI)) (by rw [hvl]; exact h64) fun st' hp hs => ?_) (args_list_sort _)))
  obtain ⟨ns', a1, a2, a3⟩ := sorted_out_str hI hp hs
  refine ⟨_, rfl, ?_⟩
  generalize ((arrOf st').map (·.2)) = out at a1 ⊢
  obtain ⟨c, hc⟩ := sortedHeap_at (vs := vs) (out := out) hoL
  have pn : ns'.Perm (es.toList.map txOf) := a2.trans pk
  refine wpAny_pure ⟨_, rfl, hQ _ s1.heap.objs.size out c ns' (fun b u e => ?_) g1 o1 hz hc a1 ⟨a3, pn.nodup_iff.mpr nd⟩ (fun k => by rw [pn.mem_iff, ← hm k]) ?_⟩
  · have q := k1 b u e
    have hlt := Heap.lt_size q
    show (sortedHeap (s1.heap.push (seqObj "list" vs.toArray 0)) s1.heap.objs.size vs out).get? b = some u
    rw [sortedHeap_old (Nat.ne_of_lt hlt) (by rw [size_push']; exact Nat.lt_succ_of_lt hlt)]
    exact Heap.get?_push_of_some _ q
  · rw [pn.length_eq, List.length_map, Array.length_toList]; exact hn

end
/-- the set of texts at a, as an object of the layer -/
def SetX (w : World) (a : Addr) (S : Str → Bool) (n : Nat) : HO := .ext fun h => SetT w h a S n
theorem setX_new {w : World} {P : Program} {H : Hp} {h : Heap} {a : Addr} {S : Str → Bool} {n : Nat} (R : SetT w h a S n) : ObjOk P w H h a (SetX w a S n) := by
  have ⟨o, _, _, _, ho, _⟩ := R
  exact ⟨R, ⟨o, ho⟩, fun h1 h2 p k => SetT.at p k⟩
section
variable {X : Cx}
theorem setX_get {pins : List (Addr × Obj)} {σ : L2.St} {H : Hp} {s : Shared} {a : Addr} {S : Str → Bool} {n : Nat} (I : Inv X pins σ H s) (ha : H a = some (SetX X.w a S n)) : SetT X.w s.heap a S n := (I.hok a _ ha).1
/-- set(xs), xs a list of texts -/
def rSetOfS (K : PySem.W.Frag) (w : World) : List V → Hp → VK → Prop := fun vs H Q => ∃ (l : Addr) (xs : List Str), vs = [V.ref l] ∧ SqL K H l (xs.map V.str) ∧ xs.length < 64 ∧
  ∀ (p : Addr) (n : Nat), n ≤ xs.length → H p = none → Q (.ref p) (upd H p (SetX w p (fun x => decide (x ∈ xs)) n))
theorem cr_setOfS (hc : X.calm = true) : CallR X (.type "set") (rSetOfS X.K X.w) := by
  intro pins s σ H vs us Q I r h
  obtain ⟨l, xs, rfl, hs, h64, q⟩ := h
  obtain ⟨its, rv, hl, _⟩ := I.list hs
  rw [Vals.ref1 r]
  refine call_setT xs (I.ok.hd hc) hl.isList (by simpa using rv.strs) (by unfold scanBound; omega) fun h' tk c R hn k => ?_
  exact ⟨.ref _, upd H s.heap.objs.size (SetX X.w s.heap.objs.size (fun x => decide (x ∈ xs)) c), I.laid (t' := tk) k (Nat.le_refl _) (setX_new R), rfl, q _ c hn (I.hok.fresh (Nat.le_refl _))⟩
/-- sorted(found), found a set of fewer than 64 texts -/
def rSortedSetS (w : World) : List V → Hp → VK → Prop := fun vs H Q => ∃ (a : Addr) (S : Str → Bool) (n : Nat), vs = [V.ref a] ∧ H a = some (SetX w a S n) ∧ n < 64 ∧
  ∀ (ns : List Str) (p : Addr), sortedS ns = true → ns.Nodup → (∀ x : Str, x ∈ ns ↔ S x = true) → ns.length = n → H p = none → Q (.ref p) (upd H p (.lst (ns.map V.str)))
theorem cr_sortedSetS (hc : X.calm = true) : CallR X (.builtin "sorted") (rSortedSetS X.w) := by
  intro pins s σ H vs us Q I r h
  obtain ⟨a, S, n, rfl, ha, h64, q⟩ := h
  rw [Vals.ref1 r]
  refine sorted_setS (setX_get I ha) (I.ok.hd hc) h64 fun s' p out c ns k g o hp hg hi hs hm hl => ?_
  have hlen : (ns.map V.str).length ≤ sizeLine := by rw [List.length_map, hl, sizeLine_eq]; omega
  have hn : H p = none := I.hok.fresh hp
  have J : Inv X pins σ (upd H p (.lst (ns.map V.str))) { s with heap := s'.heap, gens := s'.gens, drawn := s'.drawn, toks := s'.toks } :=
    I.call (ch := []) (Un.laid k hp hn) (I.hok.laid k hp ⟨hlen, out.toList, c, vals_of_strs hi, hg⟩) (by rw [g]; exact I.bare) (fun _ z => nomatch z)
  have e : s' = { s with heap := s'.heap, gens := s'.gens, drawn := s'.drawn, toks := s'.toks } := by
    cases s'
    cases s
    cases o
    rfl
  rw [e]
  exact ⟨.ref p, _, J, rfl, q ns p hs.1 hs.2 hm hl hn⟩
end
end R01

set_option Elab.async false
set_option linter.all false
set_option maxRecDepth 100000
set_option maxHeartbeats 4000000
/-! k01, the plain law: kinds, fitting, joining -/
namespace K01
open PySem
/-- which of the four effects -/
structure Ef where
  (a b c d : Bool)
deriving DecidableEq
def effs : List Str := ["changes", "fails", "tells", "works"]
def one (b : Bool) (s : Str) : List Str := if b then [s] else []
def effL (e : Ef) : List Str := one e.a "changes" ++ (one e.b "fails" ++ (one e.c "tells" ++ one e.d "works"))
inductive Kd where
  | int | bool | unit | named | never
  | arr (k : Kd)
  | fn0 (e : Ef) (r : Kd)
  | fn1 (e : Ef) (p r : Kd)
  | fn2 (e : Ef) (p q r : Kd)
deriving DecidableEq
def sds (l : List Str) : List PyData := l.map PyData.str
def toD : Kd → PyData
  | .int => .tuple [.str "int"]
  | .bool => .tuple [.str "bool"]
  | .unit => .tuple [.str "unit"]
  | .named => .tuple [.str "named", .str "main", .str "tree"]
  | .never => .tuple [.str "never"]
  | .arr k => .tuple [.str "array", toD k]
  | .fn0 e r => .tuple [.str "fun", .tuple [], toD r, .tuple (sds (effL e))]
  | .fn1 e p r => .tuple [.str "fun", .tuple [toD p], toD r, .tuple (sds (effL e))]
  | .fn2 e p q r => .tuple [.str "fun", .tuple [toD p, toD q], toD r, .tuple (sds (effL e))]
def isFn : Kd → Bool
  | .fn0 .. | .fn1 .. | .fn2 .. => true
  | _ => false
def ps : Kd → List Kd
  | .fn1 _ p _ => [p]
  | .fn2 _ p q _ => [p, q]
  | _ => []
def res : Kd → Kd
  | .fn0 _ r => r
  | .fn1 _ _ r => r
  | .fn2 _ _ _ r => r
  | k => k
def ef : Kd → Ef
  | .fn0 e _ => e
  | .fn1 e _ _ => e
  | .fn2 e _ _ _ => e
  | _ => ⟨false, false, false, false⟩
def rank : Kd → Nat
  | .arr k => rank k + 1
  | .fn0 _ r => rank r + 1
  | .fn1 _ p r => max (rank p) (rank r) + 1
  | .fn2 _ p q r => max (rank p) (max (rank q) (rank r)) + 1
  | _ => 0
theorem ps_rank {k p : Kd} (h : p ∈ ps k) : rank p < rank k := by
  cases k <;> simp [ps] at h <;> simp only [rank]
  · subst h; omega
  · rcases h with h | h <;> subst h <;> omega
theorem res_rank {k : Kd} (h : isFn k = true) : rank (res k) < rank k := by
  cases k <;> simp [isFn] at h <;> simp only [rank, res] <;> omega
theorem fn_ext {a b : Kd} (ha : isFn a = true) (hb : isFn b = true) (h1 : ps a = ps b) (h2 : res a = res b) (h3 : ef a = ef b) : a = b := by
  cases a <;> simp [isFn] at ha <;> cases b <;> simp [isFn] at hb <;> simp_all [ps, res, ef]
def inS (x : Str) (l : List Str) : Bool := l.any (· == x)
def sub (e f : Ef) : Bool := (effL e).all fun x => inS x (effL f)
theorem effL_inj : ∀ e f : Ef, effL e = effL f → e = f := by
  rintro ⟨a, b, c, d⟩ ⟨a', b', c', d'⟩
  cases a <;> cases b <;> cases c <;> cases d <;> cases a' <;> cases b' <;> cases c' <;> cases d' <;> decide +kernel
theorem sub_le : ∀ e f : Ef, sub e f = ((!e.a || f.a) && (!e.b || f.b) && (!e.c || f.c) && (!e.d || f.d)) := by
  rintro ⟨a, b, c, d⟩ ⟨a', b', c', d'⟩
  cases a <;> cases b <;> cases c <;> cases d <;> cases a' <;> cases b' <;> cases c' <;> cases d' <;> decide +kernel
theorem sub_trans {e f g : Ef} (h1 : sub e f = true) (h2 : sub f g = true) : sub e g = true := by
  rw [sub_le] at *
  obtain ⟨a, b, c, d⟩ := e
  obtain ⟨a', b', c', d'⟩ := f
  obtain ⟨x, y, z, w⟩ := g
  revert h1 h2
  cases a <;> cases b <;> cases c <;> cases d <;> cases a' <;> cases b' <;> cases c' <;> cases d' <;> cases x <;> cases y <;> cases z <;> cases w <;> decide
theorem sub_anti {e f : Ef} (h1 : sub e f = true) (h2 : sub f e = true) : e = f := by
  rw [sub_le] at *
  obtain ⟨a, b, c, d⟩ := e
  obtain ⟨a', b', c', d'⟩ := f
  revert h1 h2
  cases a <;> cases b <;> cases c <;> cases d <;> cases a' <;> cases b' <;> cases c' <;> cases d' <;> decide
/-- the first may stand where the second is wanted; n: how deep it is looked -/
def fitsN : Nat → Kd → Kd → Bool
  | 0, _, _ => false
  | n + 1, a, b => decide (a = .never) || decide (a = b) || (isFn a && isFn b && decide ((ps a).length = (ps b).length) && ((ps a).zip (ps b)).all (fun p => fitsN n p.2 p.1) && fitsN n (res a) (res b) && sub (ef a) (ef b))
theorem fits_self (n : Nat) (a : Kd) : fitsN (n + 1) a a = true := by simp [fitsN]
theorem fits_never (n : Nat) (a : Kd) : fitsN (n + 1) .never a = true := by simp [fitsN]
theorem fits_iff {n : Nat} {a b : Kd} : fitsN (n + 1) a b = true ↔ a = .never ∨ a = b ∨ (isFn a = true ∧ isFn b = true ∧ (ps a).length = (ps b).length ∧ (∀ p ∈ (ps a).zip (ps b), fitsN n p.2 p.1 = true) ∧ fitsN n (res a) (res b) = true ∧ sub (ef a) (ef b) = true) := by
  simp only [fitsN, Bool.or_eq_true, Bool.and_eq_true, decide_eq_true_eq, List.all_eq_true, and_assoc, or_assoc]
theorem zip_trans {f : Kd → Kd → Bool} (ht : ∀ a b c, f a b = true → f b c = true → f a c = true) : ∀ {l m r : List Kd}, l.length = m.length → m.length = r.length →
    (∀ p ∈ l.zip m, f p.2 p.1 = true) → (∀ p ∈ m.zip r, f p.2 p.1 = true) → ∀ p ∈ l.zip r, f p.2 p.1 = true
  | [], _, _, _, _, _, _ => by intro p hp; simp at hp
  | x :: l, [], _, h, _, _, _ => by simp at h
  | x :: l, y :: m, [], _, h, _, _ => by simp at h
  | x :: l, y :: m, z :: r, h1, h2, h3, h4 => by
    intro p hp
    rw [List.zip_cons_cons] at hp h3 h4
    rcases List.mem_cons.mp hp with e | hp
    · subst e
      exact ht _ _ _ (h4 (y, z) List.mem_cons_self) (h3 (x, y) List.mem_cons_self)
    · exact zip_trans ht (by simpa using h1) (by simpa using h2) (fun q hq => h3 q (List.mem_cons_of_mem _ hq)) (fun q hq => h4 q (List.mem_cons_of_mem _ hq)) p hp
theorem zip_anti {f : Kd → Kd → Bool} (ht : ∀ a b, f a b = true → f b a = true → a = b) : ∀ {l m : List Kd}, l.length = m.length →
    (∀ p ∈ l.zip m, f p.2 p.1 = true) → (∀ p ∈ m.zip l, f p.2 p.1 = true) → l = m
  | [], [], _, _, _ => rfl
  | [], _ :: _, h, _, _ => by simp at h
  | _ :: _, [], h, _, _ => by simp at h
  | x :: l, y :: m, h1, h3, h4 => by
    rw [List.zip_cons_cons] at h3 h4
    rw [ht x y (h4 (y, x) List.mem_cons_self) (h3 (x, y) List.mem_cons_self), zip_anti ht (by simpa using h1) (fun q hq => h3 q (List.mem_cons_of_mem _ hq)) (fun q hq => h4 q (List.mem_cons_of_mem _ hq))]
theorem fits_trans : ∀ (n : Nat) (a b c : Kd), fitsN n a b = true → fitsN n b c = true → fitsN n a c = true
  | 0, _, _, _, h, _ => by simp [fitsN] at h
  | n + 1, a, b, c, h1, h2 => by
    rw [fits_iff] at h1 h2 ⊢
    rcases h1 with h | h | ⟨fa, fb, hl, hp, hr, he⟩
    · exact .inl h
    · subst h; exact h2
    · rcases h2 with h | h | ⟨_, fc, hl2, hp2, hr2, he2⟩
      · subst h; simp [isFn] at fb
      · subst h; exact .inr (.inr ⟨fa, fb, hl, hp, hr, he⟩)
      · exact .inr (.inr ⟨fa, fc, hl.trans hl2, zip_trans (fits_trans n) hl hl2 hp hp2, fits_trans n _ _ _ hr hr2, sub_trans he he2⟩)
theorem fits_anti : ∀ (n : Nat) (a b : Kd), fitsN n a b = true → fitsN n b a = true → a = b
  | 0, _, _, h, _ => by simp [fitsN] at h
  | n + 1, a, b, h1, h2 => by
    rw [fits_iff] at h1 h2
    rcases h1 with h | h | ⟨fa, fb, hl, hp, hr, he⟩
    · rcases h2 with h' | h' | ⟨fb, fa, _⟩
      · rw [h, h']
      · exact h'.symm
      · subst h; simp [isFn] at fa
    · exact h
    · rcases h2 with h' | h' | ⟨_, _, _, hp2, hr2, he2⟩
      · subst h'; simp [isFn] at fb
      · exact h'.symm
      · exact fn_ext fa fb (zip_anti (fits_anti n) hl hp hp2) (fits_anti n _ _ hr hr2) (sub_anti he he2)
def joinN (n : Nat) (a b : Kd) : Option Kd := if fitsN n a b then some b else if fitsN n b a then some a else none
/-! equality of their data -/
theorem eqv_strs : ∀ l m : List Str, PyData.eqvAll (sds l) (sds m) = decide (l = m)
  | [], [] => by simp [sds, PyData.eqvAll]
  | [], _ :: _ => by simp [sds, PyData.eqvAll]
  | _ :: _, [] => by simp [sds, PyData.eqvAll]
  | x :: l, y :: m => by
    have h := eqv_strs l m
    unfold sds at h ⊢
    rw [List.map_cons, List.map_cons, PyData.eqvAll, h]
    simp only [PyData.eqv]
    by_cases e : x = y <;> simp [e]
theorem eqv_effs (e f : Ef) : PyData.eqv (.tuple (sds (effL e))) (.tuple (sds (effL f))) = decide (e = f) := by
  rw [PyData.eqv, eqv_strs]
  by_cases h : e = f
  · subst h; simp
  · rw [decide_eq_false h, decide_eq_false fun z => h (effL_inj e f z)]
def tag : Kd → Str
  | .int => "int" | .bool => "bool" | .unit => "unit" | .named => "named" | .never => "never" | .arr _ => "array" | _ => "fun"
theorem tag_fn (k : Kd) : (tag k = "fun") ↔ isFn k = true := by
  cases k <;> simp only [tag, isFn] <;> decide +kernel
end K01

set_option Elab.async false
set_option linter.all false
set_option maxRecDepth 100000
set_option maxHeartbeats 4000000
/-! k01: the data of kinds; what a kind is, read off any value -/
namespace K01
open PySem
def tagN : Kd → Nat
  | .int => 0 | .bool => 1 | .unit => 2 | .named => 3 | .never => 4 | .arr _ => 5 | _ => 6
def tags : List Str := ["int", "bool", "unit", "named", "never", "array", "fun"]
theorem tag_at (k : Kd) : tag k = tags.getD (tagN k) "" := by cases k <;> rfl
theorem tags_inj7 : ∀ i j : Fin 7, tags.getD i.1 "" = tags.getD j.1 "" → i = j := by decide +kernel
theorem tags_inj (i j : Nat) (hi : i < 7) (hj : j < 7) (h : tags.getD i "" = tags.getD j "") : i = j := congrArg Fin.val (tags_inj7 ⟨i, hi⟩ ⟨j, hj⟩ h)
theorem tagN_lt (k : Kd) : tagN k < 7 := by cases k <;> simp [tagN]
theorem tag_beq (a b : Kd) : (tag a == tag b) = decide (tagN a = tagN b) := by
  by_cases h : tagN a = tagN b
  · rw [tag_at a, tag_at b, h]; simp
  · have e : tag a ≠ tag b := fun z => h (tags_inj _ _ (tagN_lt a) (tagN_lt b) (by rw [← tag_at, ← tag_at]; exact z))
    simp [e, h]
def rest : Kd → List PyData
  | .named => [.str "main", .str "tree"]
  | .arr k => [toD k]
  | .fn0 e r => [.tuple [], toD r, .tuple (sds (effL e))]
  | .fn1 e p r => [.tuple [toD p], toD r, .tuple (sds (effL e))]
  | .fn2 e p q r => [.tuple [toD p, toD q], toD r, .tuple (sds (effL e))]
  | _ => []
theorem toD_eq (k : Kd) : toD k = .tuple (.str (tag k) :: rest k) := by cases k <;> rfl
theorem rest_fn {k : Kd} (h : isFn k = true) : rest k = [.tuple ((ps k).map toD), toD (res k), .tuple (sds (effL (ef k)))] := by
  cases k <;> simp [isFn] at h <;> rfl
theorem ea_nil : PyData.eqvAll [] [] = true := by rw [PyData.eqvAll]
theorem ea_cons {x y : PyData} {l m : List PyData} : PyData.eqvAll (x :: l) (y :: m) = (PyData.eqv x y && PyData.eqvAll l m) := by rw [PyData.eqvAll]
theorem ea_nc {y : PyData} {m : List PyData} : PyData.eqvAll [] (y :: m) = false := by rw [PyData.eqvAll]
theorem ea_cn {y : PyData} {m : List PyData} : PyData.eqvAll (y :: m) [] = false := by rw [PyData.eqvAll]
theorem e_tup {l m : List PyData} : PyData.eqv (.tuple l) (.tuple m) = PyData.eqvAll l m := by rw [PyData.eqv]
theorem e_str {x y : Str} : PyData.eqv (.str x) (.str y) = (x == y) := by rw [PyData.eqv]
theorem eqv_toD (a : Kd) : ∀ b : Kd, PyData.eqv (toD a) (toD b) = decide (a = b) := by
  induction a with
  | arr k ih =>
    intro b
    rw [toD_eq (.arr k), toD_eq b, e_tup, ea_cons, e_str, tag_beq]
    cases b <;> simp [tagN, rest, ea_cons, ea_nil, ea_nc, ea_cn, ih]
  | fn0 e r ih =>
    intro b
    rw [toD_eq (.fn0 e r), toD_eq b, e_tup, ea_cons, e_str, tag_beq]
    cases b <;> simp [tagN, rest, ea_cons, ea_nil, ea_nc, ea_cn, ih, eqv_effs]
    all_goals (rw [e_tup]; simp [ea_nil, ea_nc, ea_cn, ea_cons, Bool.and_comm])
  | fn1 e p r ihp ih =>
    intro b
    rw [toD_eq (.fn1 e p r), toD_eq b, e_tup, ea_cons, e_str, tag_beq]
    cases b <;> simp [tagN, rest, ea_cons, ea_nil, ea_nc, ea_cn, ih, eqv_effs]
    all_goals (rw [e_tup]; simp [ea_nil, ea_nc, ea_cn, ea_cons, ihp, Bool.and_comm, Bool.and_assoc, Bool.and_left_comm])
  | fn2 e p q r ihp ihq ih =>
    intro b
    rw [toD_eq (.fn2 e p q r), toD_eq b, e_tup, ea_cons, e_str, tag_beq]
    cases b <;> simp [tagN, rest, ea_cons, ea_nil, ea_nc, ea_cn, ih, eqv_effs]
    all_goals (rw [e_tup]; simp [ea_nil, ea_nc, ea_cn, ea_cons, ihp, ihq, Bool.and_comm, Bool.and_assoc, Bool.and_left_comm])
  | _ =>
    intro b
    rw [toD_eq, toD_eq b, e_tup, ea_cons, e_str, tag_beq]
    cases b <;> simp [tagN, rest, ea_nil, ea_nc, ea_cn, ea_cons, e_str]
/-! what a kind is -/
def strOf : PyData → Str
  | .str s => s
  | _ => ""
def isEff : PyData → Bool
  | .str s => inS s effs
  | _ => false
def ltS (a b : Str) : Bool := decide (a.cps.toList < b.cps.toList)
def upS (l : List Str) : Bool := (List.range (l.length - 1)).all fun i => ltS (l.getD i "") (l.getD (i + 1) "")
def letters : Str := "abcdefghijklmnopqrstuvwxyz"
def wordS (s : Str) : Bool := decide (1 ≤ s.length) && decide (s.length ≤ 12) && s.cps.toList.all fun c => decide (c ∈ letters.cps.toList)
def isWord : PyData → Bool
  | .str s => wordS s
  | _ => false
def plainT (t : Str) : Bool := inS t ["bool", "int", "unit"]
def isKind : Nat → PyData → Bool
  | 0, _ => false
  | n + 1, .tuple (.str t :: r) =>
    if plainT t then r.isEmpty
    else if t = "array" then (match r with
      | [x] => isKind n x
      | _ => false)
    else if t = "named" then (match r with
      | [x, y] => isWord x && isWord y
      | _ => false)
    else if t = "fun" then (match r with
      | [.tuple p, x, .tuple e] => decide (p.length ≤ 4) && p.all (isKind n) && isKind n x && (e.all isEff && upS (e.map strOf))
      | _ => false)
    else false
  | _ + 1, _ => false
def effR (s : Str) : Nat := if s = "changes" then 0 else if s = "fails" then 1 else if s = "tells" then 2 else 3
theorem effR_lt {a b : Str} (ha : inS a effs = true) (hb : inS b effs = true) (h : ltS a b = true) : effR a < effR b := by
  unfold inS effs at ha hb
  simp only [List.any_cons, List.any_nil, Bool.or_false, Bool.or_eq_true, beq_iff_eq] at ha hb
  rcases ha with e | e | e | e <;> rcases hb with f | f | f | f <;> subst e <;> subst f <;> revert h <;> decide +kernel
theorem effR_le (s : Str) : effR s ≤ 3 := by unfold effR; split <;> (try split) <;> (try split) <;> omega
theorem up_short {l : List Str} (h : l.all (fun x => inS x effs) = true) (u : upS l = true) : l.length ≤ 4 := by
  have g : ∀ i, i < l.length → inS (l.getD i "") effs = true := fun i hi => by
    rw [List.getD_eq_getElem?_getD, List.getElem?_eq_getElem hi]
    exact List.all_eq_true.mp h _ (List.getElem_mem hi)
  have k : ∀ i, i < l.length → i ≤ effR (l.getD i "") := by
    intro i
    induction i with
    | zero => intro _; omega
    | succ i ih =>
      intro hi
      have h1 := ih (by omega)
      have h2 := effR_lt (g i (by omega)) (g (i + 1) hi) (List.all_eq_true.mp u i (List.mem_range.mpr (by omega)))
      omega
  by_cases hz : l.length = 0
  · omega
  · have h1 := k (l.length - 1) (by omega)
    have h2 := effR_le (l.getD (l.length - 1) "")
    omega
theorem effs_short {e : List PyData} (h : e.all isEff = true) (u : upS (e.map strOf) = true) : e.length ≤ 4 := by
  have a : (e.map strOf).all (fun x => inS x effs) = true := by
    rw [List.all_eq_true] at h ⊢
    intro x hx
    obtain ⟨d, hd, rfl⟩ := List.mem_map.mp hx
    have q := h d hd
    cases d <;> simp [isEff] at q ⊢
    exact q
  have := up_short a u
  rwa [List.length_map] at this
end K01

set_option Elab.async false
set_option linter.all false
set_option maxRecDepth 100000
set_option maxHeartbeats 0
namespace K01
open PySem PySem.Spec PyProof.Rows L2
def top (i : Nat) : Stmt := PySem.Challenge.pw_wholedown_k01_whole_kinds.main.body.getD i (.Pass ⟨0, 0, 0, 0⟩)
abbrev s_is_between : Stmt := top 3
theorem sc_is_between : FnScope ["value", "low", "high"] ["value", "low", "high"] (defScope s_is_between) := ⟨rfl, rfl, rfl, by decide +kernel, rfl, by decide +kernel, by decide +kernel⟩
abbrev s_is_ascending : Stmt := top 4
theorem sc_is_ascending : FnScope ["value", "at"] ["value"] (defScope s_is_ascending) := ⟨rfl, rfl, rfl, by decide +kernel, rfl, by decide +kernel, by decide +kernel⟩
abbrev s_is_word_name : Stmt := top 5
theorem sc_is_word_name : FnScope ["value", "letter"] ["value"] (defScope s_is_word_name) := ⟨rfl, rfl, rfl, by decide +kernel, rfl, by decide +kernel, by decide +kernel⟩
abbrev s_are_effects : Stmt := top 11
theorem sc_are_effects : FnScope ["value", "one"] ["value"] (defScope s_are_effects) := ⟨rfl, rfl, rfl, by decide +kernel, rfl, by decide +kernel, by decide +kernel⟩
abbrev s_is_kind : Stmt := top 12
theorem sc_is_kind : FnScope ["value", "deep", "one"] ["value", "deep"] (defScope s_is_kind) := ⟨rfl, rfl, rfl, by decide +kernel, rfl, by decide +kernel, by decide +kernel⟩
abbrev s_fits : Stmt := top 13
theorem sc_fits : FnScope ["one", "two", "effect", "a", "b"] ["one", "two"] (defScope s_fits) := ⟨rfl, rfl, rfl, by decide +kernel, rfl, by decide +kernel, by decide +kernel⟩
abbrev s_joined : Stmt := top 14
theorem sc_joined : FnScope ["one", "two"] ["one", "two"] (defScope s_joined) := ⟨rfl, rfl, rfl, by decide +kernel, rfl, by decide +kernel, by decide +kernel⟩
abbrev s_together : Stmt := top 15
theorem sc_together : FnScope ["rows", "row", "effect"] [] (defScope s_together) := ⟨rfl, rfl, rfl, by decide +kernel, rfl, by decide +kernel, by decide +kernel⟩
abbrev s_law_is_integer : Stmt := top 17
theorem sc_law_is_integer : FnScope ["actual"] ["actual"] (defScope s_law_is_integer) := ⟨rfl, rfl, rfl, by decide +kernel, rfl, by decide +kernel, by decide +kernel⟩
abbrev s_law_same : Stmt := top 18
theorem sc_law_same : FnScope ["actual", "due", "k"] ["actual", "due"] (defScope s_law_same) := ⟨rfl, rfl, rfl, by decide +kernel, rfl, by decide +kernel, by decide +kernel⟩
abbrev s_law_pool : Stmt := top 19
theorem sc_law_pool : FnScope ["script", "salt", "cell"] ["script"] (defScope s_law_pool) := ⟨rfl, rfl, rfl, by decide +kernel, rfl, by decide +kernel, by decide +kernel⟩
abbrev s_law_spread : Stmt := top 20
theorem sc_law_spread : FnScope ["cell", "mixed", "total", "k"] ["cell"] (defScope s_law_spread) := ⟨rfl, rfl, rfl, by decide +kernel, rfl, by decide +kernel, by decide +kernel⟩
abbrev s_law_draw : Stmt := top 21
theorem sc_law_draw : FnScope ["pool", "many", "cell", "mixed", "value"] ["pool", "many"] (defScope s_law_draw) := ⟨rfl, rfl, rfl, by decide +kernel, rfl, by decide +kernel, by decide +kernel⟩
abbrev s_law_pick : Stmt := top 22
theorem sc_law_pick : FnScope ["pool", "items"] ["pool", "items"] (defScope s_law_pick) := ⟨rfl, rfl, rfl, by decide +kernel, rfl, by decide +kernel, by decide +kernel⟩
abbrev s_law_bent : Stmt := top 23
theorem sc_law_bent : FnScope ["pool", "value", "at", "turn", "other", "items"] ["pool", "value"] (defScope s_law_bent) := ⟨rfl, rfl, rfl, by decide +kernel, rfl, by decide +kernel, by decide +kernel⟩
abbrev s_law_booled : Stmt := top 24
theorem sc_law_booled : FnScope ["value", "one"] ["value"] (defScope s_law_booled) := ⟨rfl, rfl, rfl, by decide +kernel, rfl, by decide +kernel, by decide +kernel⟩
abbrev s_law_listed : Stmt := top 25
theorem sc_law_listed : FnScope ["value", "deep", "one"] ["value", "deep"] (defScope s_law_listed) := ⟨rfl, rfl, rfl, by decide +kernel, rfl, by decide +kernel, by decide +kernel⟩
abbrev s_law_odd_values : Stmt := top 26
theorem sc_law_odd_values : FnScope ["deep", "k"] [] (defScope s_law_odd_values) := ⟨rfl, rfl, rfl, by decide +kernel, rfl, by decide +kernel, by decide +kernel⟩
abbrev s_law_is_up : Stmt := top 27
theorem sc_law_is_up : FnScope ["items", "k"] ["items"] (defScope s_law_is_up) := ⟨rfl, rfl, rfl, by decide +kernel, rfl, by decide +kernel, by decide +kernel⟩
abbrev s_law_swapped : Stmt := top 28
theorem sc_law_swapped : FnScope ["pool", "value", "at", "other", "row"] ["pool", "value"] (defScope s_law_swapped) := ⟨rfl, rfl, rfl, by decide +kernel, rfl, by decide +kernel, by decide +kernel⟩
abbrev s_law_changed : Stmt := top 29
theorem sc_law_changed : FnScope ["pool", "value", "things", "at"] ["pool", "value", "things"] (defScope s_law_changed) := ⟨rfl, rfl, rfl, by decide +kernel, rfl, by decide +kernel, by decide +kernel⟩
abbrev s_law_effects : Stmt := top 30
theorem sc_law_effects : FnScope [] [] (defScope s_law_effects) := ⟨rfl, rfl, rfl, by decide +kernel, rfl, by decide +kernel, by decide +kernel⟩
abbrev s_law_bends : Stmt := top 31
theorem sc_law_bends : FnScope ["pool", "sample", "things", "found", "k"] ["pool", "sample"] (defScope s_law_bends) := ⟨rfl, rfl, rfl, by decide +kernel, rfl, by decide +kernel, by decide +kernel⟩
abbrev s_law_fits : Stmt := top 32
theorem sc_law_fits : FnScope ["one", "two", "k", "effect"] ["one", "two"] (defScope s_law_fits) := ⟨rfl, rfl, rfl, by decide +kernel, rfl, by decide +kernel, by decide +kernel⟩
abbrev s_law_joined : Stmt := top 33
theorem sc_law_joined : FnScope ["one", "two"] ["one", "two"] (defScope s_law_joined) := ⟨rfl, rfl, rfl, by decide +kernel, rfl, by decide +kernel, by decide +kernel⟩
abbrev s_law_row_of : Stmt := top 34
theorem sc_law_row_of : FnScope ["rows", "found", "row"] ["rows"] (defScope s_law_row_of) := ⟨rfl, rfl, rfl, by decide +kernel, rfl, by decide +kernel, by decide +kernel⟩
abbrev s_law_some_kind : Stmt := top 35
theorem sc_law_some_kind : FnScope ["pool", "deep", "turn", "effects", "effect", "k"] ["pool", "deep"] (defScope s_law_some_kind) := ⟨rfl, rfl, rfl, by decide +kernel, rfl, by decide +kernel, by decide +kernel⟩
abbrev s_law_near : Stmt := top 36
theorem sc_law_near : FnScope ["pool", "kind", "effects", "effect", "one"] ["pool", "kind"] (defScope s_law_near) := ⟨rfl, rfl, rfl, by decide +kernel, rfl, by decide +kernel, by decide +kernel⟩
abbrev s_law_word : Stmt := top 37
theorem sc_law_word : FnScope ["value", "one"] ["value"] (defScope s_law_word) := ⟨rfl, rfl, rfl, by decide +kernel, rfl, by decide +kernel, by decide +kernel⟩
abbrev s_law_is_kind : Stmt := top 38
theorem sc_law_is_kind : FnScope ["value", "deep", "one"] ["value", "deep"] (defScope s_law_is_kind) := ⟨rfl, rfl, rfl, by decide +kernel, rfl, by decide +kernel, by decide +kernel⟩
abbrev s_law : Stmt := top 39
theorem sc_law : FnScope ["script", "pool", "turn", "one", "two", "three", "every", "a", "b", "c", "rows", "deep", "value", "k", "effect"] ["script"] (defScope s_law) := ⟨rfl, rfl, rfl, by decide +kernel, rfl, by decide +kernel, by decide +kernel⟩
abbrev FnP (K : PySem.W.Frag) (x q : Str) (st : Stmt) (f : Addr) (fd : FuncData) : Prop := FunD K x q (defArgs st) (defBody st) (defScope st) [] [] f fd
structure Txt (K : PySem.W.Frag) (mg : Str → Option Value) where
  d_is_between : FuncData
  d_is_ascending : FuncData
  d_is_word_name : FuncData
  d_are_effects : FuncData
  d_is_kind : FuncData
  d_fits : FuncData
  d_joined : FuncData
  d_together : FuncData
  d__law_is_integer : FuncData
  d__law_same : FuncData
  d__law_pool : FuncData
  d__law_spread : FuncData
  d__law_draw : FuncData
  d__law_pick : FuncData
  d__law_bent : FuncData
  d__law_booled : FuncData
  d__law_listed : FuncData
  d__law_odd_values : FuncData
  d__law_is_up : FuncData
  d__law_swapped : FuncData
  d__law_changed : FuncData
  d__law_effects : FuncData
  d__law_bends : FuncData
  d__law_fits : FuncData
  d__law_joined : FuncData
  d__law_row_of : FuncData
  d__law_some_kind : FuncData
  d__law_near : FuncData
  d__law_word : FuncData
  d__law_is_kind : FuncData
  d_law : FuncData
  t_LETTERS : Tok
  t_LONGEST_NAME : Tok
  t_MOST_PARAMS : Tok
  g_is_between : mg "is_between" = some (.ref (He.ga K "is_between"))
  g_is_ascending : mg "is_ascending" = some (.ref (He.ga K "is_ascending"))
  g_is_word_name : mg "is_word_name" = some (.ref (He.ga K "is_word_name"))
  g_are_effects : mg "are_effects" = some (.ref (He.ga K "are_effects"))
  g_is_kind : mg "is_kind" = some (.ref (He.ga K "is_kind"))
  g_fits : mg "fits" = some (.ref (He.ga K "fits"))
  g_joined : mg "joined" = some (.ref (He.ga K "joined"))
  g_together : mg "together" = some (.ref (He.ga K "together"))
  g__law_is_integer : mg "_law_is_integer" = some (.ref (He.ga K "_law_is_integer"))
  g__law_same : mg "_law_same" = some (.ref (He.ga K "_law_same"))
  g__law_pool : mg "_law_pool" = some (.ref (He.ga K "_law_pool"))
  g__law_spread : mg "_law_spread" = some (.ref (He.ga K "_law_spread"))
  g__law_draw : mg "_law_draw" = some (.ref (He.ga K "_law_draw"))
  g__law_pick : mg "_law_pick" = some (.ref (He.ga K "_law_pick"))
  g__law_bent : mg "_law_bent" = some (.ref (He.ga K "_law_bent"))
  g__law_booled : mg "_law_booled" = some (.ref (He.ga K "_law_booled"))
  g__law_listed : mg "_law_listed" = some (.ref (He.ga K "_law_listed"))
  g__law_odd_values : mg "_law_odd_values" = some (.ref (He.ga K "_law_odd_values"))
  g__law_is_up : mg "_law_is_up" = some (.ref (He.ga K "_law_is_up"))
  g__law_swapped : mg "_law_swapped" = some (.ref (He.ga K "_law_swapped"))
  g__law_changed : mg "_law_changed" = some (.ref (He.ga K "_law_changed"))
  g__law_effects : mg "_law_effects" = some (.ref (He.ga K "_law_effects"))
  g__law_bends : mg "_law_bends" = some (.ref (He.ga K "_law_bends"))
  g__law_fits : mg "_law_fits" = some (.ref (He.ga K "_law_fits"))
  g__law_joined : mg "_law_joined" = some (.ref (He.ga K "_law_joined"))
  g__law_row_of : mg "_law_row_of" = some (.ref (He.ga K "_law_row_of"))
  g__law_some_kind : mg "_law_some_kind" = some (.ref (He.ga K "_law_some_kind"))
  g__law_near : mg "_law_near" = some (.ref (He.ga K "_law_near"))
  g__law_word : mg "_law_word" = some (.ref (He.ga K "_law_word"))
  g__law_is_kind : mg "_law_is_kind" = some (.ref (He.ga K "_law_is_kind"))
  g_law : mg "law" = some (.ref (He.ga K "law"))
  len : mg "len" = none
  range : mg "range" = none
  list : mg "list" = none
  tuple : mg "tuple" = none
  sorted : mg "sorted" = none
  int : mg "int" = none
  str : mg "str" = none
  isinstance : mg "isinstance" = none
  bool : mg "bool" = none
  zip : mg "zip" = none
  all : mg "all" = none
  set : mg "set" = none
  g_EFFECTS : mg "EFFECTS" = some (.ref (He.ga K "EFFECTS"))
  tup_EFFECTS : He.tupB K "EFFECTS" [.str "changes", .str "fails", .str "tells", .str "works"] = true
  g_PLAIN : mg "PLAIN" = some (.ref (He.ga K "PLAIN"))
  tup_PLAIN : He.tupB K "PLAIN" [.str "bool", .str "int", .str "unit"] = true
  g_NEVER : mg "NEVER" = some (.ref (He.ga K "NEVER"))
  tup_NEVER : He.tupB K "NEVER" [.str "never"] = true
  F_is_between : FnP K "is_between" "is_between" s_is_between (He.ga K "is_between") d_is_between
  b_is_between : Binds K d_is_between ["value", "low", "high"] []
  F_is_ascending : FnP K "is_ascending" "is_ascending" s_is_ascending (He.ga K "is_ascending") d_is_ascending
  b_is_ascending : Binds K d_is_ascending ["value"] []
  F_is_word_name : FnP K "is_word_name" "is_word_name" s_is_word_name (He.ga K "is_word_name") d_is_word_name
  b_is_word_name : Binds K d_is_word_name ["value"] []
  F_are_effects : FnP K "are_effects" "are_effects" s_are_effects (He.ga K "are_effects") d_are_effects
  b_are_effects : Binds K d_are_effects ["value"] []
  F_is_kind : FnP K "is_kind" "is_kind" s_is_kind (He.ga K "is_kind") d_is_kind
  b_is_kind : Binds K d_is_kind ["value", "deep"] []
  F_fits : FnP K "fits" "fits" s_fits (He.ga K "fits") d_fits
  b_fits : Binds K d_fits ["one", "two"] []
  F_joined : FnP K "joined" "joined" s_joined (He.ga K "joined") d_joined
  b_joined : Binds K d_joined ["one", "two"] []
  F_together : FnP K "together" "together" s_together (He.ga K "together") d_together
  F__law_is_integer : FnP K "_law_is_integer" "_law_is_integer" s_law_is_integer (He.ga K "_law_is_integer") d__law_is_integer
  b__law_is_integer : Binds K d__law_is_integer ["actual"] []
  F__law_same : FnP K "_law_same" "_law_same" s_law_same (He.ga K "_law_same") d__law_same
  b__law_same : Binds K d__law_same ["actual", "due"] []
  F__law_pool : FnP K "_law_pool" "_law_pool" s_law_pool (He.ga K "_law_pool") d__law_pool
  b__law_pool : Binds K d__law_pool ["script"] []
  F__law_spread : FnP K "_law_spread" "_law_spread" s_law_spread (He.ga K "_law_spread") d__law_spread
  b__law_spread : Binds K d__law_spread ["cell"] []
  F__law_draw : FnP K "_law_draw" "_law_draw" s_law_draw (He.ga K "_law_draw") d__law_draw
  b__law_draw : Binds K d__law_draw ["pool", "many"] []
  F__law_pick : FnP K "_law_pick" "_law_pick" s_law_pick (He.ga K "_law_pick") d__law_pick
  b__law_pick : Binds K d__law_pick ["pool", "items"] []
  F__law_bent : FnP K "_law_bent" "_law_bent" s_law_bent (He.ga K "_law_bent") d__law_bent
  b__law_bent : Binds K d__law_bent ["pool", "value"] []
  F__law_booled : FnP K "_law_booled" "_law_booled" s_law_booled (He.ga K "_law_booled") d__law_booled
  b__law_booled : Binds K d__law_booled ["value"] []
  F__law_listed : FnP K "_law_listed" "_law_listed" s_law_listed (He.ga K "_law_listed") d__law_listed
  b__law_listed : Binds K d__law_listed ["value", "deep"] []
  F__law_odd_values : FnP K "_law_odd_values" "_law_odd_values" s_law_odd_values (He.ga K "_law_odd_values") d__law_odd_values
  b__law_odd_values : Binds K d__law_odd_values [] []
  F__law_is_up : FnP K "_law_is_up" "_law_is_up" s_law_is_up (He.ga K "_law_is_up") d__law_is_up
  b__law_is_up : Binds K d__law_is_up ["items"] []
  F__law_swapped : FnP K "_law_swapped" "_law_swapped" s_law_swapped (He.ga K "_law_swapped") d__law_swapped
  b__law_swapped : Binds K d__law_swapped ["pool", "value"] []
  F__law_changed : FnP K "_law_changed" "_law_changed" s_law_changed (He.ga K "_law_changed") d__law_changed
  b__law_changed : Binds K d__law_changed ["pool", "value", "things"] []
  F__law_effects : FnP K "_law_effects" "_law_effects" s_law_effects (He.ga K "_law_effects") d__law_effects
  b__law_effects : Binds K d__law_effects [] []
  F__law_bends : FnP K "_law_bends" "_law_bends" s_law_bends (He.ga K "_law_bends") d__law_bends
  b__law_bends : Binds K d__law_bends ["pool", "sample"] []
  F__law_fits : FnP K "_law_fits" "_law_fits" s_law_fits (He.ga K "_law_fits") d__law_fits
  b__law_fits : Binds K d__law_fits ["one", "two"] []
  F__law_joined : FnP K "_law_joined" "_law_joined" s_law_joined (He.ga K "_law_joined") d__law_joined
  b__law_joined : Binds K d__law_joined ["one", "two"] []
  F__law_row_of : FnP K "_law_row_of" "_law_row_of" s_law_row_of (He.ga K "_law_row_of") d__law_row_of
  b__law_row_of : Binds K d__law_row_of ["rows"] []
  F__law_some_kind : FnP K "_law_some_kind" "_law_some_kind" s_law_some_kind (He.ga K "_law_some_kind") d__law_some_kind
  b__law_some_kind : Binds K d__law_some_kind ["pool", "deep"] []
  F__law_near : FnP K "_law_near" "_law_near" s_law_near (He.ga K "_law_near") d__law_near
  b__law_near : Binds K d__law_near ["pool", "kind"] []
  F__law_word : FnP K "_law_word" "_law_word" s_law_word (He.ga K "_law_word") d__law_word
  b__law_word : Binds K d__law_word ["value"] []
  F__law_is_kind : FnP K "_law_is_kind" "_law_is_kind" s_law_is_kind (He.ga K "_law_is_kind") d__law_is_kind
  b__law_is_kind : Binds K d__law_is_kind ["value", "deep"] []
  F_law : FnP K "law" "law" s_law (He.ga K "law") d_law
  b_law : Binds K d_law ["script"] []
  LETTERS : mg "LETTERS" = some (.str "abcdefghijklmnopqrstuvwxyz" t_LETTERS)
  LONGEST_NAME : mg "LONGEST_NAME" = some (.int 12 t_LONGEST_NAME)
  MOST_PARAMS : mg "MOST_PARAMS" = some (.int 4 t_MOST_PARAMS)
def fnL : List He.DefD := [⟨("is_between", none), "is_between", "is_between", defArgs s_is_between, defBody s_is_between, defScope s_is_between, [], []⟩,
  ⟨("is_ascending", none), "is_ascending", "is_ascending", defArgs s_is_ascending, defBody s_is_ascending, defScope s_is_ascending, [], []⟩,
  ⟨("is_word_name", none), "is_word_name", "is_word_name", defArgs s_is_word_name, defBody s_is_word_name, defScope s_is_word_name, [], []⟩,
  ⟨("are_effects", none), "are_effects", "are_effects", defArgs s_are_effects, defBody s_are_effects, defScope s_are_effects, [], []⟩,
  ⟨("is_kind", none), "is_kind", "is_kind", defArgs s_is_kind, defBody s_is_kind, defScope s_is_kind, [], []⟩,
  ⟨("fits", none), "fits", "fits", defArgs s_fits, defBody s_fits, defScope s_fits, [], []⟩,
  ⟨("joined", none), "joined", "joined", defArgs s_joined, defBody s_joined, defScope s_joined, [], []⟩,
  ⟨("together", none), "together", "together", defArgs s_together, defBody s_together, defScope s_together, [], []⟩,
  ⟨("_law_is_integer", none), "_law_is_integer", "_law_is_integer", defArgs s_law_is_integer, defBody s_law_is_integer, defScope s_law_is_integer, [], []⟩,
  ⟨("_law_same", none), "_law_same", "_law_same", defArgs s_law_same, defBody s_law_same, defScope s_law_same, [], []⟩,
  ⟨("_law_pool", none), "_law_pool", "_law_pool", defArgs s_law_pool, defBody s_law_pool, defScope s_law_pool, [], []⟩,
  ⟨("_law_spread", none), "_law_spread", "_law_spread", defArgs s_law_spread, defBody s_law_spread, defScope s_law_spread, [], []⟩,
  ⟨("_law_draw", none), "_law_draw", "_law_draw", defArgs s_law_draw, defBody s_law_draw, defScope s_law_draw, [], []⟩,
  ⟨("_law_pick", none), "_law_pick", "_law_pick", defArgs s_law_pick, defBody s_law_pick, defScope s_law_pick, [], []⟩,
  ⟨("_law_bent", none), "_law_bent", "_law_bent", defArgs s_law_bent, defBody s_law_bent, defScope s_law_bent, [], []⟩,
  ⟨("_law_booled", none), "_law_booled", "_law_booled", defArgs s_law_booled, defBody s_law_booled, defScope s_law_booled, [], []⟩,
  ⟨("_law_listed", none), "_law_listed", "_law_listed", defArgs s_law_listed, defBody s_law_listed, defScope s_law_listed, [], []⟩,
  ⟨("_law_odd_values", none), "_law_odd_values", "_law_odd_values", defArgs s_law_odd_values, defBody s_law_odd_values, defScope s_law_odd_values, [], []⟩,
  ⟨("_law_is_up", none), "_law_is_up", "_law_is_up", defArgs s_law_is_up, defBody s_law_is_up, defScope s_law_is_up, [], []⟩,
  ⟨("_law_swapped", none), "_law_swapped", "_law_swapped", defArgs s_law_swapped, defBody s_law_swapped, defScope s_law_swapped, [], []⟩,
  ⟨("_law_changed", none), "_law_changed", "_law_changed", defArgs s_law_changed, defBody s_law_changed, defScope s_law_changed, [], []⟩,
  ⟨("_law_effects", none), "_law_effects", "_law_effects", defArgs s_law_effects, defBody s_law_effects, defScope s_law_effects, [], []⟩,
  ⟨("_law_bends", none), "_law_bends", "_law_bends", defArgs s_law_bends, defBody s_law_bends, defScope s_law_bends, [], []⟩,
  ⟨("_law_fits", none), "_law_fits", "_law_fits", defArgs s_law_fits, defBody s_law_fits, defScope s_law_fits, [], []⟩,
  ⟨("_law_joined", none), "_law_joined", "_law_joined", defArgs s_law_joined, defBody s_law_joined, defScope s_law_joined, [], []⟩,
  ⟨("_law_row_of", none), "_law_row_of", "_law_row_of", defArgs s_law_row_of, defBody s_law_row_of, defScope s_law_row_of, [], []⟩,
  ⟨("_law_some_kind", none), "_law_some_kind", "_law_some_kind", defArgs s_law_some_kind, defBody s_law_some_kind, defScope s_law_some_kind, [], []⟩,
  ⟨("_law_near", none), "_law_near", "_law_near", defArgs s_law_near, defBody s_law_near, defScope s_law_near, [], []⟩,
  ⟨("_law_word", none), "_law_word", "_law_word", defArgs s_law_word, defBody s_law_word, defScope s_law_word, [], []⟩,
  ⟨("_law_is_kind", none), "_law_is_kind", "_law_is_kind", defArgs s_law_is_kind, defBody s_law_is_kind, defScope s_law_is_kind, [], []⟩,
  ⟨("law", none), "law", "law", defArgs s_law, defBody s_law, defScope s_law, [], []⟩]
def faL : List He.Fa := [.glo "is_between", .glo "is_ascending", .glo "is_word_name", .glo "are_effects", .glo "is_kind", .glo "fits", .glo "joined", .glo "together", .glo "_law_is_integer", .glo "_law_same", .glo "_law_pool", .glo "_law_spread", .glo "_law_draw", .glo "_law_pick", .glo "_law_bent", .glo "_law_booled", .glo "_law_listed", .glo "_law_odd_values", .glo "_law_is_up", .glo "_law_swapped", .glo "_law_changed", .glo "_law_effects", .glo "_law_bends", .glo "_law_fits", .glo "_law_joined", .glo "_law_row_of", .glo "_law_some_kind", .glo "_law_near", .glo "_law_word", .glo "_law_is_kind", .glo "law", .free "len", .free "range", .free "list", .free "tuple", .free "sorted", .free "int", .free "str", .free "isinstance", .free "bool", .free "zip", .free "all", .free "set", .str "LETTERS" "abcdefghijklmnopqrstuvwxyz", .int "LONGEST_NAME" 12, .glo "EFFECTS", .glo "PLAIN", .int "MOST_PARAMS" 4, .glo "NEVER"]
def tpL : List (Str × List He.Dv) := [("EFFECTS", [.str "changes", .str "fails", .str "tells", .str "works"]), ("PLAIN", [.str "bool", .str "int", .str "unit"]), ("NEVER", [.str "never"])]
theorem txt_of {K : PySem.W.Frag} {h : Heap} {mg : Str → Option Value} (X : K.In h) (G : h.Ns mainGlobals mg) (c : He.SaysD faL fnL K) (ct : (tpL.all fun p => He.tupB K p.1 p.2) = true) : Nonempty (Txt K mg) := by
  have tp : ∀ (i : Nat) {p : Str × List He.Dv}, tpL[i]? = some p → He.tupB K p.1 p.2 = true := fun i p h => List.all_eq_true.mp ct p (List.mem_of_getElem? h)
  obtain ⟨t_LETTERS, e_LETTERS⟩ := He.str_ok X G (c.fact 43 (f := .str "LETTERS" "abcdefghijklmnopqrstuvwxyz") rfl)
  obtain ⟨t_LONGEST_NAME, e_LONGEST_NAME⟩ := He.int_ok X G (c.fact 44 (f := .int "LONGEST_NAME" 12) rfl)
  obtain ⟨t_MOST_PARAMS, e_MOST_PARAMS⟩ := He.int_ok X G (c.fact 47 (f := .int "MOST_PARAMS" 4) rfl)
  obtain ⟨d_is_between, F_is_between⟩ := c.def_ 0 rfl
  obtain ⟨d_is_ascending, F_is_ascending⟩ := c.def_ 1 rfl
  obtain ⟨d_is_word_name, F_is_word_name⟩ := c.def_ 2 rfl
  obtain ⟨d_are_effects, F_are_effects⟩ := c.def_ 3 rfl
  obtain ⟨d_is_kind, F_is_kind⟩ := c.def_ 4 rfl
  obtain ⟨d_fits, F_fits⟩ := c.def_ 5 rfl
  obtain ⟨d_joined, F_joined⟩ := c.def_ 6 rfl
  obtain ⟨d_together, F_together⟩ := c.def_ 7 rfl
  obtain ⟨d__law_is_integer, F__law_is_integer⟩ := c.def_ 8 rfl
  obtain ⟨d__law_same, F__law_same⟩ := c.def_ 9 rfl
  obtain ⟨d__law_pool, F__law_pool⟩ := c.def_ 10 rfl
  obtain ⟨d__law_spread, F__law_spread⟩ := c.def_ 11 rfl
  obtain ⟨d__law_draw, F__law_draw⟩ := c.def_ 12 rfl
  obtain ⟨d__law_pick, F__law_pick⟩ := c.def_ 13 rfl
  obtain ⟨d__law_bent, F__law_bent⟩ := c.def_ 14 rfl
  obtain ⟨d__law_booled, F__law_booled⟩ := c.def_ 15 rfl
  obtain ⟨d__law_listed, F__law_listed⟩ := c.def_ 16 rfl
  obtain ⟨d__law_odd_values, F__law_odd_values⟩ := c.def_ 17 rfl
  obtain ⟨d__law_is_up, F__law_is_up⟩ := c.def_ 18 rfl
  obtain ⟨d__law_swapped, F__law_swapped⟩ := c.def_ 19 rfl
  obtain ⟨d__law_changed, F__law_changed⟩ := c.def_ 20 rfl
  obtain ⟨d__law_effects, F__law_effects⟩ := c.def_ 21 rfl
  obtain ⟨d__law_bends, F__law_bends⟩ := c.def_ 22 rfl
  obtain ⟨d__law_fits, F__law_fits⟩ := c.def_ 23 rfl
  obtain ⟨d__law_joined, F__law_joined⟩ := c.def_ 24 rfl
  obtain ⟨d__law_row_of, F__law_row_of⟩ := c.def_ 25 rfl
  obtain ⟨d__law_some_kind, F__law_some_kind⟩ := c.def_ 26 rfl
  obtain ⟨d__law_near, F__law_near⟩ := c.def_ 27 rfl
  obtain ⟨d__law_word, F__law_word⟩ := c.def_ 28 rfl
  obtain ⟨d__law_is_kind, F__law_is_kind⟩ := c.def_ 29 rfl
  obtain ⟨d_law, F_law⟩ := c.def_ 30 rfl
  exact ⟨{
    d_is_between := d_is_between,
    d_is_ascending := d_is_ascending,
    d_is_word_name := d_is_word_name,
    d_are_effects := d_are_effects,
    d_is_kind := d_is_kind,
    d_fits := d_fits,
    d_joined := d_joined,
    d_together := d_together,
    d__law_is_integer := d__law_is_integer,
    d__law_same := d__law_same,
    d__law_pool := d__law_pool,
    d__law_spread := d__law_spread,
    d__law_draw := d__law_draw,
    d__law_pick := d__law_pick,
    d__law_bent := d__law_bent,
    d__law_booled := d__law_booled,
    d__law_listed := d__law_listed,
    d__law_odd_values := d__law_odd_values,
    d__law_is_up := d__law_is_up,
    d__law_swapped := d__law_swapped,
    d__law_changed := d__law_changed,
    d__law_effects := d__law_effects,
    d__law_bends := d__law_bends,
    d__law_fits := d__law_fits,
    d__law_joined := d__law_joined,
    d__law_row_of := d__law_row_of,
    d__law_some_kind := d__law_some_kind,
    d__law_near := d__law_near,
    d__law_word := d__law_word,
    d__law_is_kind := d__law_is_kind,
    d_law := d_law,
    t_LETTERS := t_LETTERS,
    t_LONGEST_NAME := t_LONGEST_NAME,
    t_MOST_PARAMS := t_MOST_PARAMS,
    g_is_between := He.glo_ok X G (c.fact 0 rfl),
    g_is_ascending := He.glo_ok X G (c.fact 1 rfl),
    g_is_word_name := He.glo_ok X G (c.fact 2 rfl),
    g_are_effects := He.glo_ok X G (c.fact 3 rfl),
    g_is_kind := He.glo_ok X G (c.fact 4 rfl),
    g_fits := He.glo_ok X G (c.fact 5 rfl),
    g_joined := He.glo_ok X G (c.fact 6 rfl),
    g_together := He.glo_ok X G (c.fact 7 rfl),
    g__law_is_integer := He.glo_ok X G (c.fact 8 rfl),
    g__law_same := He.glo_ok X G (c.fact 9 rfl),
    g__law_pool := He.glo_ok X G (c.fact 10 rfl),
    g__law_spread := He.glo_ok X G (c.fact 11 rfl),
    g__law_draw := He.glo_ok X G (c.fact 12 rfl),
    g__law_pick := He.glo_ok X G (c.fact 13 rfl),
    g__law_bent := He.glo_ok X G (c.fact 14 rfl),
    g__law_booled := He.glo_ok X G (c.fact 15 rfl),
    g__law_listed := He.glo_ok X G (c.fact 16 rfl),
    g__law_odd_values := He.glo_ok X G (c.fact 17 rfl),
    g__law_is_up := He.glo_ok X G (c.fact 18 rfl),
    g__law_swapped := He.glo_ok X G (c.fact 19 rfl),
    g__law_changed := He.glo_ok X G (c.fact 20 rfl),
    g__law_effects := He.glo_ok X G (c.fact 21 rfl),
    g__law_bends := He.glo_ok X G (c.fact 22 rfl),
    g__law_fits := He.glo_ok X G (c.fact 23 rfl),
    g__law_joined := He.glo_ok X G (c.fact 24 rfl),
    g__law_row_of := He.glo_ok X G (c.fact 25 rfl),
    g__law_some_kind := He.glo_ok X G (c.fact 26 rfl),
    g__law_near := He.glo_ok X G (c.fact 27 rfl),
    g__law_word := He.glo_ok X G (c.fact 28 rfl),
    g__law_is_kind := He.glo_ok X G (c.fact 29 rfl),
    g_law := He.glo_ok X G (c.fact 30 rfl),
    len := He.free_ok X G (c.fact 31 rfl),
    range := He.free_ok X G (c.fact 32 rfl),
    list := He.free_ok X G (c.fact 33 rfl),
    tuple := He.free_ok X G (c.fact 34 rfl),
    sorted := He.free_ok X G (c.fact 35 rfl),
    int := He.free_ok X G (c.fact 36 rfl),
    str := He.free_ok X G (c.fact 37 rfl),
    isinstance := He.free_ok X G (c.fact 38 rfl),
    bool := He.free_ok X G (c.fact 39 rfl),
    zip := He.free_ok X G (c.fact 40 rfl),
    all := He.free_ok X G (c.fact 41 rfl),
    set := He.free_ok X G (c.fact 42 rfl),
    g_EFFECTS := He.glo_ok X G (c.fact 45 rfl),
    tup_EFFECTS := tp 0 rfl,
    g_PLAIN := He.glo_ok X G (c.fact 46 rfl),
    tup_PLAIN := tp 1 rfl,
    g_NEVER := He.glo_ok X G (c.fact 48 rfl),
    tup_NEVER := tp 2 rfl,
    F_is_between := F_is_between,
    b_is_between := (F_is_between.bindsN (ps := ["value", "low", "high"]) fun _ _ _ _ _ _ us hl => match us, hl with | [_, _, _], _ => rfl),
    F_is_ascending := F_is_ascending,
    b_is_ascending := (F_is_ascending.bindsN (ps := ["value"]) fun _ _ _ _ _ _ us hl => match us, hl with | [_], _ => rfl),
    F_is_word_name := F_is_word_name,
    b_is_word_name := (F_is_word_name.bindsN (ps := ["value"]) fun _ _ _ _ _ _ us hl => match us, hl with | [_], _ => rfl),
    F_are_effects := F_are_effects,
    b_are_effects := (F_are_effects.bindsN (ps := ["value"]) fun _ _ _ _ _ _ us hl => match us, hl with | [_], _ => rfl),
    F_is_kind := F_is_kind,
    b_is_kind := (F_is_kind.bindsN (ps := ["value", "deep"]) fun _ _ _ _ _ _ us hl => match us, hl with | [_, _], _ => rfl),
    F_fits := F_fits,
    b_fits := (F_fits.bindsN (ps := ["one", "two"]) fun _ _ _ _ _ _ us hl => match us, hl with | [_, _], _ => rfl),
    F_joined := F_joined,
    b_joined := (F_joined.bindsN (ps := ["one", "two"]) fun _ _ _ _ _ _ us hl => match us, hl with | [_, _], _ => rfl),
    F_together := F_together,
    F__law_is_integer := F__law_is_integer,
    b__law_is_integer := (F__law_is_integer.bindsN (ps := ["actual"]) fun _ _ _ _ _ _ us hl => match us, hl with | [_], _ => rfl),
    F__law_same := F__law_same,
    b__law_same := (F__law_same.bindsN (ps := ["actual", "due"]) fun _ _ _ _ _ _ us hl => match us, hl with | [_, _], _ => rfl),
    F__law_pool := F__law_pool,
    b__law_pool := (F__law_pool.bindsN (ps := ["script"]) fun _ _ _ _ _ _ us hl => match us, hl with | [_], _ => rfl),
    F__law_spread := F__law_spread,
    b__law_spread := (F__law_spread.bindsN (ps := ["cell"]) fun _ _ _ _ _ _ us hl => match us, hl with | [_], _ => rfl),
    F__law_draw := F__law_draw,
    b__law_draw := (F__law_draw.bindsN (ps := ["pool", "many"]) fun _ _ _ _ _ _ us hl => match us, hl with | [_, _], _ => rfl),
    F__law_pick := F__law_pick,
    b__law_pick := (F__law_pick.bindsN (ps := ["pool", "items"]) fun _ _ _ _ _ _ us hl => match us, hl with | [_, _], _ => rfl),
    F__law_bent := F__law_bent,
    b__law_bent := (F__law_bent.bindsN (ps := ["pool", "value"]) fun _ _ _ _ _ _ us hl => match us, hl with | [_, _], _ => rfl),
    F__law_booled := F__law_booled,
    b__law_booled := (F__law_booled.bindsN (ps := ["value"]) fun _ _ _ _ _ _ us hl => match us, hl with | [_], _ => rfl),
    F__law_listed := F__law_listed,
    b__law_listed := (F__law_listed.bindsN (ps := ["value", "deep"]) fun _ _ _ _ _ _ us hl => match us, hl with | [_, _], _ => rfl),
    F__law_odd_values := F__law_odd_values,
    b__law_odd_values := (F__law_odd_values.bindsN (ps := []) fun _ _ _ _ _ _ us hl => match us, hl with | [], _ => rfl),
    F__law_is_up := F__law_is_up,
    b__law_is_up := (F__law_is_up.bindsN (ps := ["items"]) fun _ _ _ _ _ _ us hl => match us, hl with | [_], _ => rfl),
    F__law_swapped := F__law_swapped,
    b__law_swapped := (F__law_swapped.bindsN (ps := ["pool", "value"]) fun _ _ _ _ _ _ us hl => match us, hl with | [_, _], _ => rfl),
    F__law_changed := F__law_changed,
    b__law_changed := (F__law_changed.bindsN (ps := ["pool", "value", "things"]) fun _ _ _ _ _ _ us hl => match us, hl with | [_, _, _], _ => rfl),
    F__law_effects := F__law_effects,
    b__law_effects := (F__law_effects.bindsN (ps := []) fun _ _ _ _ _ _ us hl => match us, hl with | [], _ => rfl),
    F__law_bends := F__law_bends,
    b__law_bends := (F__law_bends.bindsN (ps := ["pool", "sample"]) fun _ _ _ _ _ _ us hl => match us, hl with | [_, _], _ => rfl),
    F__law_fits := F__law_fits,
    b__law_fits := (F__law_fits.bindsN (ps := ["one", "two"]) fun _ _ _ _ _ _ us hl => match us, hl with | [_, _], _ => rfl),
    F__law_joined := F__law_joined,
    b__law_joined := (F__law_joined.bindsN (ps := ["one", "two"]) fun _ _ _ _ _ _ us hl => match us, hl with | [_, _], _ => rfl),
    F__law_row_of := F__law_row_of,
    b__law_row_of := (F__law_row_of.bindsN (ps := ["rows"]) fun _ _ _ _ _ _ us hl => match us, hl with | [_], _ => rfl),
    F__law_some_kind := F__law_some_kind,
    b__law_some_kind := (F__law_some_kind.bindsN (ps := ["pool", "deep"]) fun _ _ _ _ _ _ us hl => match us, hl with | [_, _], _ => rfl),
    F__law_near := F__law_near,
    b__law_near := (F__law_near.bindsN (ps := ["pool", "kind"]) fun _ _ _ _ _ _ us hl => match us, hl with | [_, _], _ => rfl),
    F__law_word := F__law_word,
    b__law_word := (F__law_word.bindsN (ps := ["value"]) fun _ _ _ _ _ _ us hl => match us, hl with | [_], _ => rfl),
    F__law_is_kind := F__law_is_kind,
    b__law_is_kind := (F__law_is_kind.bindsN (ps := ["value", "deep"]) fun _ _ _ _ _ _ us hl => match us, hl with | [_, _], _ => rfl),
    F_law := F_law,
    b_law := (F_law.bindsN (ps := ["script"]) fun _ _ _ _ _ _ us hl => match us, hl with | [_], _ => rfl),
    LETTERS := e_LETTERS,
    LONGEST_NAME := e_LONGEST_NAME,
    MOST_PARAMS := e_MOST_PARAMS }⟩
abbrev RR : PySem.W.OpenRow := PySem.W.OpenLaw.row PySem.Challenge.rw_wholedown_k01_whole_kinds
def obsC (n : Nat) (g : Addr → Option Obj) : He.AlD × Bool := (He.obsD faL fnL (He.frG g (He.asD g n)), tpL.all fun p => He.tupB (He.frG g (He.asD g n)) p.1 p.2)
def hk : PySem.W.Hook where
  α := He.AlD × Bool
  obs := fun s => obsC 6 s.heap.get?
  val := fun _ => (He.valD fnL, true)
  says := fun _ h => ∃ K : PySem.W.Frag, K.In h ∧ He.SaysD faL fnL K ∧ (tpL.all fun p => He.tupB K p.1 p.2) = true
  of := fun _ _ e => ⟨_, He.frG_in, congrArg Prod.fst e, congrArg Prod.snd e⟩
  keeps := fun _ _ _ ⟨K, hK, c⟩ k => ⟨K, PySem.W.Frag.In.keeps hK k, c⟩
def ob (s : PySem.W.SharedT) : He.AlD × Bool := obsC 6 (HandSHeadRun.getT s)
theorem ob_eq (s : PySem.W.SharedT) : ob s = hk.obs s.abs := by
  have e : HandSHeadRun.getT s = s.abs.heap.get? := funext (HandSHeadRun.getT_eq s)
  show obsC 6 (HandSHeadRun.getT s) = obsC 6 s.abs.heap.get?
  rw [e]
def looseN : List Str := (["is_between", "is_ascending", "is_word_name", "are_effects", "is_kind", "fits", "joined", "together", "_law_is_integer", "_law_same", "_law_pool", "_law_spread", "_law_draw", "_law_pick", "_law_bent", "_law_booled", "_law_listed", "_law_odd_values", "_law_is_up", "_law_swapped"] : List Str) ++ (["_law_changed", "_law_effects", "_law_bends", "_law_fits", "_law_joined", "_law_row_of", "_law_some_kind", "_law_near", "_law_word", "_law_is_kind", "LETTERS", "LONGEST_NAME", "EFFECTS", "PLAIN", "MOST_PARAMS", "NEVER"] : List Str)
theorem run (w : World) : HandSHeadRun.RunEq RR (PySem.W.view RR.prog [39]) hk ob 20000 looseN w := by
  intro os
  kernel_rfl
end K01

set_option Elab.async false
set_option linter.all false
set_option maxRecDepth 100000
set_option maxHeartbeats 4000000
/-! k01: heaps beside the pool, values as data, comprehensions -/
namespace K01
open PySem PySem.Spec PyProof.Rows L2
theorem pe_gi {X : Cx} {x : Str} {i : Int} {t : PySem.Tok} {pos : Pos} (h : Gl X x) (hm : X.mg x = some (.int i t)) (hd : (x == ("__debug__" : Str)) = false := by decide) : PE X (.Name x pos) (tC (.int i)) := pe_glob (v := .int i) h hm ⟨t, rfl⟩ hd
theorem pe_gs {X : Cx} {x : Str} {i : Str} {t : PySem.Tok} {pos : Pos} (h : Gl X x) (hm : X.mg x = some (.str i t)) (hd : (x == ("__debug__" : Str)) = false := by decide) : PE X (.Name x pos) (tC (.str i)) := pe_glob (v := .str i) h hm ⟨t, rfl⟩ hd
theorem pe_gt {X : Cx} {x : Str} {a : Addr} {pos : Pos} (h : Gl X x) (hm : X.mg x = some (.ref a)) (hd : (x == ("__debug__" : Str)) = false := by decide) : PE X (.Name x pos) (tC (.ref a)) := pe_glob (v := .ref a) h hm rfl hd
abbrev rLenS (K : PySem.W.Frag) : List V → Hp → VK → Prop := fun xs H Q => ∃ p ys, xs = [.ref p] ∧ (SqL K H p ys ∨ SqT K H p ys) ∧ Q (.int ys.length) H
abbrev rListOf (K : PySem.W.Frag) : List V → Hp → VK → Prop := fun xs H Q => ∃ p ys, xs = [.ref p] ∧ (SqL K H p ys ∨ SqT K H p ys) ∧ ∀ l, H l = none → Q (.ref l) (upd H l (.lst ys))
abbrev rTupOf (K : PySem.W.Frag) : List V → Hp → VK → Prop := fun xs H Q => ∃ p ys, xs = [.ref p] ∧ ((SqL K H p ys ∧ ∀ l, H l = none → Q (.ref l) (upd H l (.tup ys))) ∨ (SqT K H p ys ∧ Q (.ref p) H))
def rEqM (K : PySem.W.Frag) : R2 := fun x y H Q => ∃ d e, Dp K H x d ∧ Dp K H y e ∧ d.canLay0 = true ∧ e.canLay0 = true ∧ min d.depth e.depth ≤ 64 ∧ Q (.bl (PyData.eqv d e)) H
def rNeM (K : PySem.W.Frag) : R2 := fun x y H Q => ∃ d e, Dp K H x d ∧ Dp K H y e ∧ d.canLay0 = true ∧ e.canLay0 = true ∧ min d.depth e.depth ≤ 64 ∧ Q (.bl (!PyData.eqv d e)) H
theorem op_eqM {X : Cx} (hu : X.A.units + 64 < cLine) : OpR X (compareOp .Eq) (rEqM X.K) := by
  intro pins s σ H x y v u Q I rx ry h
  obtain ⟨d, e, hd, he, sd, se, hm, q⟩ := h
  obtain ⟨as, r1⟩ := Dp.reads I d x v hd rx
  obtain ⟨bs, r2⟩ := Dp.reads I e y u he ry
  exact SeqAt.compareEq_reads r1 r2 sd se (by omega) ⟨.bl _, H, I, rfl, q⟩
theorem op_neM {X : Cx} (hu : X.A.units + 64 < cLine) : OpR X (compareOp .NotEq) (rNeM X.K) := by
  intro pins s σ H x y v u Q I rx ry h
  obtain ⟨d, e, hd, he, sd, se, hm, q⟩ := h
  obtain ⟨as, r1⟩ := Dp.reads I d x v hd rx
  obtain ⟨bs, r2⟩ := Dp.reads I e y u he ry
  exact SeqAt.compareNe_reads r1 r2 sd se (by omega) ⟨.bl _, H, I, rfl, q⟩
/-! the heap beside the pool -/
def hid (p : Addr) (H : Hp) : Hp := fun a => if a = p then none else H a
def But (p : Addr) (H H' : Hp) : Prop := Same (hid p H) (hid p H')
theorem hid_at {p a : Addr} {H : Hp} (h : a ≠ p) : hid p H a = H a := if_neg h
theorem hid_le (p : Addr) (H : Hp) : Same (hid p H) H := fun a o h => by
  by_cases e : a = p
  · unfold hid at h; rw [if_pos e] at h; cases h
  · rw [hid_at e] at h; exact h
theorem hid_some {p a : Addr} {H : Hp} {o : HO} (h : hid p H a = some o) : a ≠ p := fun e => by unfold hid at h; rw [if_pos e] at h; cases h
theorem _root_.L2.Same.but {H H' : Hp} (s : Same H H') (p : Addr) : But p H H' := fun a o h => by
  have e := hid_some h
  rw [hid_at e] at h ⊢; exact s a o h
theorem But.refl (p : Addr) (H : Hp) : But p H H := Same.refl _
theorem But.trans {p : Addr} {H H1 H2 : Hp} (a : But p H H1) (b : But p H1 H2) : But p H H2 := Same.trans a b
theorem But.at {p a : Addr} {H H' : Hp} {o : HO} (b : But p H H') (h : H a = some o) (n : a ≠ p) : H' a = some o := by
  have := b a o (by rw [hid_at n]; exact h)
  rwa [hid_at n] at this
theorem _root_.L2.Same.upd_new {H0 H : Hp} {a : Addr} {o : HO} (h : Same H0 H) (ha : H0 a = none) : Same H0 (upd H a o) := fun b u e => by
  rw [upd_ne (ne_of_none e ha)]; exact h b u e
theorem Same.one {H : Hp} {a : Addr} {o : HO} (h : H a = none) : Same H (upd H a o) := (Same.refl H).upd_new h
theorem But.set {p : Addr} {H : Hp} {o : HO} : But p H (upd H p o) := fun a u h => by
  have e := hid_some h
  rw [hid_at e] at h ⊢
  rw [upd_ne e]; exact h
theorem _root_.L2.Same.sqt {K : PySem.W.Frag} {H H' : Hp} {a : Addr} {xs : List V} (e : Same H H') (h : SqT K H a xs) : SqT K H' a xs := by
  rcases h with (h | ⟨o, h⟩) | h
  · exact .inl (.inl (e _ _ h))
  · exact .inl (.inr ⟨o, e _ _ h⟩)
  · exact .inr h
theorem sqt_new {K : PySem.W.Frag} {H : Hp} {a : Addr} {xs : List V} (h : H a = some (.tup xs)) : SqT K H a xs := .inl (.inl h)
theorem sql_new {K : PySem.W.Frag} {H : Hp} {a : Addr} {xs : List V} (h : H a = some (.lst xs)) : SqL K H a xs := .inl (.inl h)
mutual
theorem dp_same {K : PySem.W.Frag} {H H' : Hp} (s : Same H H') : ∀ (d : PyData) (v : V), Dp K H v d → Dp K H' v d
  | .none, _, h => by cases h; exact .non
  | .bool b, _, h => by cases h; exact .bl b
  | .int i, _, h => by cases h; exact .int i
  | .str x, _, h => by cases h; exact .str x
  | .list ds, _, h => by cases h with | lst hs ha => exact .lst (s.seq hs) (dps_same s ds _ ha)
  | .tuple ds, _, h => by cases h with | tup hs ha => exact .tup (s.sqt hs) (dps_same s ds _ ha)
  | .dict _, _, h => by cases h
theorem dps_same {K : PySem.W.Frag} {H H' : Hp} (s : Same H H') : ∀ (ds : List PyData) (vs : List V), DpAll K H vs ds → DpAll K H' vs ds
  | [], _, h => by cases h; exact .nil
  | d :: ds, _, h => by cases h with | cons h1 h2 => exact .cons (dp_same s d _ h1) (dps_same s ds _ h2)
end
theorem _root_.L2.Dp.same {K : PySem.W.Frag} {H H' : Hp} {v : V} {d : PyData} (h : Dp K H v d) (s : Same H H') : Dp K H' v d := dp_same s d v h
theorem _root_.L2.DpAll.same {K : PySem.W.Frag} {H H' : Hp} {v : List V} {d : List PyData} (h : DpAll K H v d) (s : Same H H') : DpAll K H' v d := dps_same s d v h
theorem dpa_len {K : PySem.W.Frag} {H : Hp} : ∀ {v : List V} {d : List PyData}, DpAll K H v d → v.length = d.length
  | _, _, .nil => rfl
  | _, _, .cons _ t => by rw [List.length_cons, List.length_cons, dpa_len t]
theorem dpa_at {K : PySem.W.Frag} {H : Hp} : ∀ {vs : List V} {ds : List PyData} {i : Nat} {v : V}, DpAll K H vs ds → vs[i]? = some v → ∃ d, ds[i]? = some d ∧ Dp K H v d
  | _, _, i, v, .nil, h => by simp at h
  | _, _, 0, v, .cons h1 _, h => by cases h; exact ⟨_, rfl, h1⟩
  | _, _, i + 1, v, .cons _ t, h => dpa_at (i := i) t h
theorem _root_.L2.DpAll.len {K : PySem.W.Frag} {H : Hp} {v : List V} {d : List PyData} (h : DpAll K H v d) : v.length = d.length := dpa_len h
theorem _root_.L2.DpAll.at {K : PySem.W.Frag} {H : Hp} {vs : List V} {ds : List PyData} {i : Nat} {v : V} (h : DpAll K H vs ds) (e : vs[i]? = some v) : ∃ d, ds[i]? = some d ∧ Dp K H v d := dpa_at h e
theorem _root_.L2.DpAll.at2 {K : PySem.W.Frag} {H : Hp} {vs : List V} {ds : List PyData} {i : Nat} {d : PyData} (h : DpAll K H vs ds) (e : ds[i]? = some d) : ∃ v, vs[i]? = some v ∧ Dp K H v d := by
  have hl := h.len
  have hi : i < ds.length := (List.getElem?_eq_some_iff.mp e).1
  obtain ⟨d', e', hd⟩ := h.at (i := i) (v := vs[i]) (List.getElem?_eq_getElem (by omega))
  rw [e] at e'; cases e'
  exact ⟨_, List.getElem?_eq_getElem (by omega), hd⟩
theorem dpa_app {K : PySem.W.Frag} {H : Hp} : ∀ {v : List V} {d : List PyData} {v2 : List V} {d2 : List PyData}, DpAll K H v d → DpAll K H v2 d2 → DpAll K H (v ++ v2) (d ++ d2)
  | _, _, _, _, .nil, h => h
  | _, _, _, _, .cons a t, h => .cons a (dpa_app t h)
theorem _root_.L2.DpAll.app {K : PySem.W.Frag} {H : Hp} {v : List V} {d : List PyData} {v2 : List V} {d2 : List PyData} (a : DpAll K H v d) (b : DpAll K H v2 d2) : DpAll K H (v ++ v2) (d ++ d2) := dpa_app a b
theorem dps_of {K : PySem.W.Frag} {H : Hp} : ∀ {vs : List V} {ds : List PyData}, vs.length = ds.length → (∀ (i : Nat) (v : V) (d : PyData), vs[i]? = some v → ds[i]? = some d → Dp K H v d) → DpAll K H vs ds
  | [], [], _, _ => .nil
  | [], _ :: _, h, _ => by simp at h
  | _ :: _, [], h, _ => by simp at h
  | v :: vs, d :: ds, h, g => .cons (g 0 v d rfl rfl) (dps_of (by simpa using h) fun i v' d' h1 h2 => g (i + 1) v' d' h1 h2)
theorem dps_take {K : PySem.W.Frag} {H : Hp} {vs : List V} {ds : List PyData} (n : Nat) (h : DpAll K H vs ds) : DpAll K H (vs.take n) (ds.take n) :=
  dps_of (by rw [List.length_take, List.length_take, h.len]) fun i v d h1 h2 => by
    rw [List.getElem?_take] at h1 h2
    split at h1
    · rename_i hlt
      rw [if_pos hlt] at h2
      obtain ⟨d', e, hd⟩ := h.at h1
      rw [h2] at e; cases e; exact hd
    · cases h1
theorem dps_drop {K : PySem.W.Frag} {H : Hp} {vs : List V} {ds : List PyData} (n : Nat) (h : DpAll K H vs ds) : DpAll K H (vs.drop n) (ds.drop n) :=
  dps_of (by rw [List.length_drop, List.length_drop, h.len]) fun i v d h1 h2 => by
    rw [List.getElem?_drop] at h1 h2
    obtain ⟨d', e, hd⟩ := h.at h1
    rw [h2] at e; cases e; exact hd
theorem dps_strs {K : PySem.W.Frag} {H : Hp} : ∀ (l : List Str), DpAll K H (l.map V.str) (sds l)
  | [] => .nil
  | x :: l => .cons (.str x) (dps_strs l)
/-! kinds of data, for isinstance -/
def tyD : PyData → String
  | .none => "NoneType" | .bool _ => "bool" | .int _ => "int" | .str _ => "str" | .list _ => "list" | .tuple _ => "tuple" | .dict _ => "dict"
/-- a value that is data, or a dict -/
def Vx (K : PySem.W.Frag) (H : Hp) (v : V) (d : PyData) : Prop := Dp K H v d ∨ (∃ kvs a, d = .dict kvs ∧ v = .ref a ∧ ∃ ks, H a = some (.dK ks))
theorem _root_.L2.Dp.x {K : PySem.W.Frag} {H : Hp} {v : V} {d : PyData} (h : Dp K H v d) : Vx K H v d := .inl h
theorem Vx.same {K : PySem.W.Frag} {H H' : Hp} {v : V} {d : PyData} (h : Vx K H v d) (s : Same H H') : Vx K H' v d := by
  rcases h with h | ⟨k, a, e1, e2, ks, e3⟩
  · exact .inl (h.same s)
  · exact .inr ⟨k, a, e1, e2, ks, s _ _ e3⟩
theorem tyx {K : PySem.W.Frag} {H : Hp} {v : V} {d : PyData} (h : Vx K H v d) : TyX K H v (.type (tyD d)) := by
  rcases h with h | ⟨k, a, rfl, rfl, ks, e3⟩
  · cases h with
    | non => exact .base .non
    | bl b => exact .base (.bl b)
    | int i => exact .base (.int i)
    | str x => exact .base (.str x)
    | lst hs _ =>
      rcases hs with (h | ⟨o, h⟩) | ⟨o, its, n, h1, h2, _⟩
      · exact .base (.lst h)
      · exact .base (.frz h)
      · exact .kList h1 h2
    | tup hs _ =>
      rcases hs with (h | ⟨o, h⟩) | ⟨o, its, n, h1, h2, _⟩
      · exact .base (.tup h)
      · exact .fTuple h
      · exact .kTuple h1 h2
  · exact .base (.dK e3)
def isTup : PyData → Bool
  | .tuple _ => true
  | _ => false
def isLst : PyData → Bool
  | .list _ => true
  | _ => false
def isStr : PyData → Bool
  | .str _ => true
  | _ => false
def isInt : PyData → Bool
  | .int _ | .bool _ => true
  | _ => false
def isBool : PyData → Bool
  | .bool _ => true
  | _ => false
theorem ki_tup {K : PySem.W.Frag} (d : PyData) : PySem.W.kitOne K (.type (tyD d)) (.type "tuple") = some (isTup d) := kit_ty (by cases d <;> (simp only [tyD, isTup]; decide +kernel))
theorem ki_lst {K : PySem.W.Frag} (d : PyData) : PySem.W.kitOne K (.type (tyD d)) (.type "list") = some (isLst d) := kit_ty (by cases d <;> (simp only [tyD, isLst]; decide +kernel))
theorem ki_str {K : PySem.W.Frag} (d : PyData) : PySem.W.kitOne K (.type (tyD d)) (.type "str") = some (isStr d) := kit_ty (by cases d <;> (simp only [tyD, isStr]; decide +kernel))
theorem ki_int {K : PySem.W.Frag} (d : PyData) : PySem.W.kitOne K (.type (tyD d)) (.type "int") = some (isInt d) := kit_ty (by cases d <;> (simp only [tyD, isInt]; decide +kernel))
theorem ki_bool {K : PySem.W.Frag} (d : PyData) : PySem.W.kitOne K (.type (tyD d)) (.type "bool") = some (isBool d) := kit_ty (by cases d <;> (simp only [tyD, isBool]; decide +kernel))
/-! comprehensions: turn i gives c i, nothing or one -/
def LcS (H1 : Hp) (D : Addr) (c : Nat → List V) (i : Nat) (H : Hp) : Prop := Same H1 H ∧ H D = some (.lst ((List.range i).flatMap c)) ∧ ∀ j, (c j).length ≤ 1
theorem LcS.zero {H1 : Hp} {D : Addr} {c : Nat → List V} (hD : H1 D = none) (h : ∀ j, (c j).length ≤ 1) : LcS H1 D c 0 (upd H1 D (.lst [])) := ⟨Same.one hD, upd_same, h⟩
theorem LcS.lens {c : Nat → List V} (h : ∀ j, (c j).length ≤ 1) : ∀ i, ((List.range i).flatMap c).length ≤ i
  | 0 => by simp
  | i + 1 => by
    have := LcS.lens h i
    have := h i
    have e : [i].flatMap c = c i := by simp
    rw [List.range_succ, List.flatMap_append, List.length_append, e]
    omega
theorem LcS.yes {H1 H H4 : Hp} {D : Addr} {c : Nat → List V} {i : Nat} {y : V} (h : LcS H1 D c i H) (hD : H1 D = none) (s : Same H H4) (e : c i = [y]) (hi : i < sizeLine) :
    ∃ acc, H4 D = some (.lst acc) ∧ acc.length < sizeLine ∧ LcS H1 D c (i + 1) (upd H4 D (.lst (acc ++ [y]))) := by
  obtain ⟨a, b, g⟩ := h
  refine ⟨_, s _ _ b, Nat.lt_of_le_of_lt (LcS.lens g i) hi, (a.trans s).upd_new hD, ?_, g⟩
  rw [upd_same, List.range_succ, List.flatMap_append]
  simp [e]
theorem LcS.no {H1 H H3 : Hp} {D : Addr} {c : Nat → List V} {i : Nat} (h : LcS H1 D c i H) (s : Same H H3) (e : c i = []) : LcS H1 D c (i + 1) H3 := by
  obtain ⟨a, b, g⟩ := h
  refine ⟨a.trans s, ?_, g⟩
  rw [s _ _ b, List.range_succ, List.flatMap_append]
  simp [e]
theorem flat_one {α : Type} (f : Nat → α) : ∀ n, (List.range n).flatMap (fun i => [f i]) = (List.range n).map f
  | 0 => rfl
  | n + 1 => by rw [List.range_succ, List.flatMap_append, List.map_append, flat_one f n]; rfl
/-- the list that a filter leaves is empty -/
theorem flat_nil {α : Type} (p : Nat → Bool) (f : Nat → α) (n : Nat) : (((List.range n).flatMap fun i => if p i then [f i] else []).length = 0) ↔ (List.range n).all (fun i => !p i) = true := by
  rw [List.length_eq_zero_iff, List.flatMap_eq_nil_iff, List.all_eq_true]
  refine ⟨fun h i hi => ?_, fun h i hi => ?_⟩
  · have := h i hi
    cases q : p i
    · rfl
    · rw [q] at this; simp at this
  · have := h i hi
    cases q : p i
    · simp
    · rw [q] at this; simp at this
theorem all_ix {α : Type} (p : α → Bool) (l : List α) (d : α) : (List.range l.length).all (fun i => p (l.getD i d)) = l.all p := by
  rw [Bool.eq_iff_iff, List.all_eq_true, List.all_eq_true]
  refine ⟨fun h x hx => ?_, fun h i hi => ?_⟩
  · obtain ⟨i, hi, e⟩ := List.getElem_of_mem hx
    have := h i (List.mem_range.mpr hi)
    rw [List.getD_eq_getElem?_getD, List.getElem?_eq_getElem hi] at this
    rw [← e]; exact this
  · rw [List.getD_eq_getElem?_getD, List.getElem?_eq_getElem (List.mem_range.mp hi)]
    exact h _ (List.getElem_mem _)
end K01

set_option Elab.async false
set_option linter.all false
set_option maxRecDepth 100000
set_option maxHeartbeats 4000000
namespace K01
open PySem PySem.Spec PyProof.Rows L2
def lenD : PyData → Nat
  | .tuple ds => ds.length
  | _ => 0
def between : PyData → Int → Int → Bool
  | .tuple ds, lo, hi => decide (lo ≤ (ds.length : Int)) && decide ((ds.length : Int) ≤ hi)
  | _, _, _ => false
theorem at_v {xs : List V} {j : Int} {n : Nat} {v : V} (e : xs[n]? = some v) (h : j = (n : Nat)) : atI xs j = some v := by rw [h]; exact atI_nat e
theorem sd_at {l : List Str} {n : Nat} (hn : n < l.length) : (l.map V.str)[n]? = some (.str (l.getD n "")) := by
  rw [List.getElem?_map, List.getD_eq_getElem?_getD, List.getElem?_eq_getElem hn]; rfl
theorem bls (f : Nat → Bool) (n : Nat) : (List.range n).flatMap (fun i => [V.bl (f i)]) = ((List.range n).map f).map V.bl := by
  rw [flat_one, List.map_map]; rfl
theorem all_id (f : Nat → Bool) (n : Nat) : ((List.range n).map f).all id = (List.range n).all f := by
  rw [List.all_map]; rfl
theorem vx_tup {K : PySem.W.Frag} {H : Hp} {v : V} {ds : List PyData} (h : Vx K H v (.tuple ds)) : ∃ a xs, v = .ref a ∧ SqT K H a xs ∧ DpAll K H xs ds := by
  rcases h with h | ⟨_, _, e, _⟩
  · cases h with | tup a b => exact ⟨_, _, rfl, a, b⟩
  · cases e
theorem vx_str {K : PySem.W.Frag} {H : Hp} {v : V} {z : Str} (h : Vx K H v (.str z)) : v = .str z := by
  rcases h with h | ⟨_, _, e, _⟩
  · cases h; rfl
  · cases e
theorem dI (a b : Int) : decide (V.int a = V.int b) = decide (a = b) := by
  by_cases h : a = b
  · subst h; simp
  · have : V.int a ≠ V.int b := fun z => h (V.int.inj z)
    simp [h]
theorem dS (a b : Str) : decide (V.str a = V.str b) = decide (a = b) := by
  by_cases h : a = b
  · subst h; simp
  · have : V.str a ≠ V.str b := fun z => h (V.str.inj z)
    simp [h]
def spBetween (K : PySem.W.Frag) : Sp := fun vs H Q _ => ∃ (v : V) (d : PyData) (lo hi : Int), vs = [v, .int lo, .int hi] ∧ Vx K H v d ∧ Q (.bl (between d lo hi)) H
/-- a tuple of texts at v -/
def spUp (K : PySem.W.Frag) : Sp := fun vs H Q _ => ∃ (a : Addr) (l : List Str), vs = [.ref a] ∧ SqT K H a (l.map V.str) ∧ l.length < sizeLine ∧ ∀ H', Same H H' → Q (.bl (upS l)) H'
def spWord (K : PySem.W.Frag) : Sp := fun vs H Q _ => ∃ (v : V) (d : PyData), vs = [v] ∧ Vx K H v d ∧ (∀ s, d = .str s → s.length ≤ 1000) ∧ ∀ H', Same H H' → Q (.bl (isWord d)) H'
def spEffects : Sp := fun vs H Q _ => vs = [] ∧ ∀ a, H a = none → Q (.ref a) (upd H a (.tup (effs.map V.str)))
section
variable {P : Program} {w : World} {K : PySem.W.Frag} {mg : Str → Option Value} {base : Heap} (T : Txt K mg)
include T
theorem ok_between : FnOk P w K mg base CX0 1 (He.ga K "is_between") T.d_is_between ["value", "low", "high"] (spBetween K) := by
  refine T.F_is_between.ok sc_is_between (fun vs H Q E h => ?_) (fun cdv A outer s H vs Q E hr h => ?_)
  · obtain ⟨v, d, lo, hi, rfl, _⟩ := h; rfl
  · obtain ⟨v, d, lo, hi, rfl, hv, q⟩ := h
    refine ⟨_, PSs.nox (pss_one (ps_ret (pe_and (pe_callB (r := rIsi K) call_isi (by rfl) T.isinstance (by decide +kernel) (pa_cons (pv 0) (pa_cons (pe_bltn (v := .ty "tuple") rfl T.tuple (by decide +kernel) rfl) pa_nil))) (pe_one (pe_chain op_le op_le (pv 1) (pe_callB (r := rLenS K) call_len_seq (by rfl) T.len (by decide +kernel) (pa_cons (pv 0) pa_nil)) (pv 2)))))), ?_⟩
    refine ⟨_, rfl, v, _, _, _, isTup d, rfl, .ty _, tyx hv, ki_tup d, _, rfl, ?_⟩
    cases d with
    | tuple ds =>
      obtain ⟨a, xs, rfl, ha, hd⟩ := vx_tup hv
      have q' : Q (.bl (decide (lo ≤ (ds.length : Int)) && decide ((ds.length : Int) ≤ hi))) H := q
      refine iteT ?_
      refine ⟨_, rfl, _, rfl, a, xs, rfl, .inr ha, _, _, rfl, rfl, _, rfl, ?_⟩
      rw [hd.len]
      refine ite2 (fun h1 => ?_) (fun h1 => ?_)
      · refine ⟨_, rfl, _, _, rfl, rfl, ?_⟩
        rw [h1] at q'
        exact q'
      · rw [eq_false_of_ne_true h1] at q'
        exact q'
    | _ => exact iteF q
theorem ok_up : FnOk P w K mg base CX0 1 (He.ga K "is_ascending") T.d_is_ascending ["value"] (spUp K) := by
  refine T.F_is_ascending.ok sc_is_ascending (fun vs H Q E h => ?_) (fun cdv A outer s H vs Q E hr h => ?_)
  · obtain ⟨a, l, rfl, _⟩ := h; rfl
  · obtain ⟨a, l, rfl, ha, hz, q⟩ := h
    refine ⟨_, PSs.nox (pss_one (ps_ret (pe_callB (r := rAll K) (cr_all rfl) (by rfl) T.all (by decide +kernel) (pa_cons (pe_lc (own := [("at", 1)]) (g := gName 1) (tt := tYes) (by rfl) sc_is_ascending.nd (pi_range2 (by rfl) T.range (pa_cons pe_int (pa_cons (pe_callB (r := rLenS K) call_len_seq (by rfl) T.len (by decide +kernel) (pa_cons (pv 0) pa_nil)) pa_nil))) (blkOk_by (own := [("at", 1)]) (N := ["value", "at"]) (sc := defScope s_is_ascending) (by decide +kernel)) (fun _ _ _ _ _ => (pg_name (i := 1) sc_is_ascending.nd rfl (.inl rfl))) (fun _ _ _ _ _ => pts_nil) (fun _ _ _ _ _ => (pe_cmpR op_lt_str (pe_ix (r := rIxT K) ix_tup (pv 0) (pe_op op_sub (pv 1) pe_int) (fun _ _ => rfl)) (pe_ix (r := rIxT K) ix_tup (pv 0) (pv 1) (fun _ _ => rfl)) (nomark _)))) pa_nil)))), ?_⟩
    have hz2 : l.length < 2 ^ 62 := by rw [sizeLine_eq] at hz; omega
    refine ⟨_, rfl, a, _, rfl, .inr ha, 1, (l.length : Nat), by rw [List.length_map], ⟨by decide, by decide, by omega, by omega⟩, fun D hD => ?_⟩
    refine lc_range (lo := 1) (n := ((l.length : Int) - 1).toNat) (LcS H D fun i => [V.bl (ltS (l.getD i "") (l.getD (i + 1) ""))]) (LcS.zero hD fun _ => Nat.le_refl 1) (fun i H3 hi hP => ?_) (fun H3 hP => ?_)
    · have ha3 := hP.1.sqt ha
      refine ⟨rfl, _, rfl, _, rfl, _, _, rfl, rfl, _, _, _, _, rfl, rfl, ha3, at_v (sd_at (n := i) (by omega)) (by omega), _, rfl, _, rfl, _, _, _, _, rfl, rfl, ha3, at_v (sd_at (n := i + 1) (by omega)) (by omega), _, _, rfl, rfl, ?_⟩
      exact hP.yes hD (Same.refl _) rfl (by omega)
    · have e := hP.2.1
      rw [bls] at e
      refine ⟨D, _, rfl, sql_new e, ?_⟩
      rw [all_id]
      have el : ((l.length : Int) - 1).toNat = l.length - 1 := by omega
      rw [el]
      exact q H3 hP.1
theorem ok_law_up : FnOk P w K mg base CX0 1 (He.ga K "_law_is_up") T.d__law_is_up ["items"] (spUp K) := by
  refine T.F__law_is_up.ok sc_law_is_up (fun vs H Q E h => ?_) (fun cdv A outer s H vs Q E hr h => ?_)
  · obtain ⟨a, l, rfl, _⟩ := h; rfl
  · obtain ⟨a, l, rfl, ha, hz, q⟩ := h
    refine ⟨_, PSs.nox (pss_one (ps_ret (pe_cmpR op_eq (pe_callB (r := rLenS K) call_len_seq (by rfl) T.len (by decide +kernel) (pa_cons (pe_lc (own := [("k", 1)]) (g := gName 1) (by rfl) sc_law_is_up.nd (pi_range2 (by rfl) T.range (pa_cons pe_int (pa_cons (pe_callB (r := rLenS K) call_len_seq (by rfl) T.len (by decide +kernel) (pa_cons (pv 0) pa_nil)) pa_nil))) (blkOk_by (own := [("k", 1)]) (N := ["items", "k"]) (sc := defScope s_law_is_up) (by decide +kernel)) (fun _ _ _ _ _ => (pg_name (i := 1) sc_law_is_up.nd rfl (.inl rfl))) (fun _ _ _ _ _ => pts_one (pt_not (pt_cmpR op_lt_str (pe_ix (r := rIxT K) ix_tup (pv 0) (pe_op op_sub (pv 1) pe_int) (fun _ _ => rfl)) (pe_ix (r := rIxT K) ix_tup (pv 0) (pv 1) (fun _ _ => rfl)) (nomark _)))) (fun _ _ _ _ _ => (pv 1))) pa_nil)) pe_int (nomark _)))), ?_⟩
    have hz2 : l.length < 2 ^ 62 := by rw [sizeLine_eq] at hz; omega
    refine ⟨_, rfl, a, _, rfl, .inr ha, 1, (l.length : Nat), by rw [List.length_map], ⟨by decide, by decide, by omega, by omega⟩, fun D hD => ?_⟩
    refine lc_range (lo := 1) (n := ((l.length : Int) - 1).toNat) (LcS H D fun i => if !ltS (l.getD i "") (l.getD (i + 1) "") then [V.int (1 + i)] else []) (LcS.zero hD fun _ => by split <;> simp) (fun i H3 hi hP => ?_) (fun H3 hP => ?_)
    · have ha3 := hP.1.sqt ha
      refine ⟨rfl, _, rfl, _, rfl, _, _, rfl, rfl, _, _, _, _, rfl, rfl, ha3, at_v (sd_at (n := i) (by omega)) (by omega), _, rfl, _, rfl, _, _, _, _, rfl, rfl, ha3, at_v (sd_at (n := i + 1) (by omega)) (by omega), _, _, rfl, rfl, _, rfl, ?_⟩
      refine ite2 (fun h1 => ?_) (fun h1 => ?_)
      · exact ⟨_, rfl, hP.yes hD (Same.refl _) (if_pos h1) (by omega)⟩
      · exact hP.no (Same.refl _) (if_neg h1)
    · have e := hP.2.1
      refine ⟨D, _, rfl, .inl (sql_new e), rfl, ?_⟩
      rw [dI]
      have el : ((l.length : Int) - 1).toNat = l.length - 1 := by omega
      rw [el]
      have k := flat_nil (fun i => !ltS (l.getD i "") (l.getD (i + 1) "")) (fun i => V.int (1 + i)) (l.length - 1)
      have q' := q H3 hP.1
      have eu : upS l = decide (((((List.range (l.length - 1)).flatMap fun i => if (!ltS (l.getD i "") (l.getD (i + 1) "")) then [V.int (1 + i)] else []).length : Nat) : Int) = 0) := by
        rw [Bool.eq_iff_iff, decide_eq_true_eq, Int.natCast_eq_zero, k]
        unfold upS
        simp only [Bool.not_not]
      rw [eu] at q'
      exact q'
theorem ok_word : FnOk P w K mg base CX0 1 (He.ga K "is_word_name") T.d_is_word_name ["value"] (spWord K) := by
  refine T.F_is_word_name.ok sc_is_word_name (fun vs H Q E h => ?_) (fun cdv A outer s H vs Q E hr h => ?_)
  · obtain ⟨v, d, rfl, _⟩ := h; rfl
  · obtain ⟨v, d, rfl, hv, hl, q⟩ := h
    refine ⟨_, PSs.nox (pss_one (ps_ret (pe_and (pe_callB (r := rIsi K) call_isi (by rfl) T.isinstance (by decide +kernel) (pa_cons (pv 0) (pa_cons (pe_bltn (v := .ty "str") rfl T.str (by decide +kernel) rfl) pa_nil))) (pe_and (pe_chain op_le op_le pe_int (pe_callB call_len_str (by rfl) T.len (by decide +kernel) (pa_cons (pv 0) pa_nil)) (pe_gi (i := 12) rfl T.LONGEST_NAME)) (pe_one (pe_callB (r := rAll K) (cr_all rfl) (by rfl) T.all (by decide +kernel) (pa_cons (pe_lc (own := [("letter", 1)]) (g := gName 1) (tt := tYes) (by rfl) sc_is_word_name.nd (pi_str (pv 0)) (blkOk_by (own := [("letter", 1)]) (N := ["value", "letter"]) (sc := defScope s_is_word_name) (by decide +kernel)) (fun _ _ _ _ _ => (pg_name (i := 1) sc_is_word_name.nd rfl (.inl rfl))) (fun _ _ _ _ _ => pts_nil) (fun _ _ _ _ _ => (pe_cmpR op_in_sign (pv 1) (pe_gs rfl T.LETTERS) (by rfl)))) pa_nil))))))), ?_⟩
    refine ⟨_, rfl, v, _, _, _, isStr d, rfl, .ty _, tyx hv, ki_str d, _, rfl, ?_⟩
    cases d with
    | str z =>
      obtain rfl := vx_str hv
      have hz := hl z rfl
      have q0 : ∀ H', Same H H' → Q (.bl (decide (1 ≤ z.length) && decide (z.length ≤ 12) && z.cps.toList.all fun c => decide (c ∈ letters.cps.toList))) H' := q
      refine iteT ⟨_, rfl, z, rfl, by rw [sizeLine_eq]; omega, _, _, rfl, rfl, _, rfl, ?_⟩
      by_cases h1 : 1 ≤ z.length
      · rw [decide_eq_true h1] at q0
        refine ite2 (fun h1' => ?_) (fun h1' => absurd (decide_eq_true (by omega)) h1')
        by_cases h2 : z.length ≤ 12
        · rw [decide_eq_true h2] at q0
          refine ⟨_, _, rfl, rfl, _, rfl, ite2 (fun h2' => ?_) (fun h2' => absurd (decide_eq_true (by omega)) h2')⟩
          refine ⟨_, rfl, z, rfl, fun D hD => ?_⟩
          refine lc_it walk_str (LcS H D fun i => [V.bl (decide (z.cps.toList.getD i 0 ∈ letters.cps.toList))]) (LcS.zero hD fun _ => Nat.le_refl 1) (fun _ _ _ _ => trivial) (fun i x H3 H4 hi hP hy => ?_) (fun H3 hP => ?_)
          · obtain ⟨rfl, c, hc, rfl⟩ := hy
            refine ⟨rfl, _, rfl, c, _, rfl, rfl, ?_⟩
            have ec : z.cps.toList.getD i 0 = c := by rw [List.getD_eq_getElem?_getD, Array.getElem?_toList, hc]; rfl
            refine hP.yes hD (Same.refl _) (by rw [ec]; rfl) (by have : z.cps.size = z.length := rfl; rw [sizeLine_eq]; omega)
          · have e := hP.2.1
            rw [bls] at e
            refine ⟨D, _, rfl, sql_new e, ?_⟩
            rw [all_id, ← Array.length_toList, all_ix (fun c => decide (c ∈ letters.cps.toList))]
            exact q0 H3 hP.1
        · rw [decide_eq_false h2] at q0
          refine ⟨_, _, rfl, rfl, _, rfl, ite2 (fun h2' => absurd (of_decide_eq_true h2') (by omega)) (fun h2' => ?_)⟩
          exact q0 H (Same.refl H)
      · rw [decide_eq_false h1] at q0
        refine ite2 (fun h1' => absurd (of_decide_eq_true h1') (by omega)) (fun h1' => ?_)
        exact ⟨_, rfl, iteF (q0 H (Same.refl H))⟩
    | _ => exact iteF (q H (Same.refl H))
theorem ok_law_word : FnOk P w K mg base CX0 1 (He.ga K "_law_word") T.d__law_word ["value"] (spWord K) := by
  refine T.F__law_word.ok sc_law_word (fun vs H Q E h => ?_) (fun cdv A outer s H vs Q E hr h => ?_)
  · obtain ⟨v, d, rfl, _⟩ := h; rfl
  · obtain ⟨v, d, rfl, hv, hl, q⟩ := h
    refine ⟨_, PSs.nox (pss_one (ps_ret (pe_and (pe_callB (r := rIsi K) call_isi (by rfl) T.isinstance (by decide +kernel) (pa_cons (pv 0) (pa_cons (pe_bltn (v := .ty "str") rfl T.str (by decide +kernel) rfl) pa_nil))) (pe_and (pe_chain op_le op_le pe_int (pe_callB call_len_str (by rfl) T.len (by decide +kernel) (pa_cons (pv 0) pa_nil)) pe_int) (pe_one (pe_cmpR op_eq (pe_callB (r := rLenS K) call_len_seq (by rfl) T.len (by decide +kernel) (pa_cons (pe_lc (own := [("one", 1)]) (g := gName 1) (by rfl) sc_law_word.nd (pi_str (pv 0)) (blkOk_by (own := [("one", 1)]) (N := ["value", "one"]) (sc := defScope s_law_word) (by decide +kernel)) (fun _ _ _ _ _ => (pg_name (i := 1) sc_law_word.nd rfl (.inl rfl))) (fun _ _ _ _ _ => pts_one (pt_cmpR op_notIn_sign (pv 1) pe_str (by rfl))) (fun _ _ _ _ _ => (pv 1))) pa_nil)) pe_int (nomark _))))))), ?_⟩
    refine ⟨_, rfl, v, _, _, _, isStr d, rfl, .ty _, tyx hv, ki_str d, _, rfl, ?_⟩
    cases d with
    | str z =>
      obtain rfl := vx_str hv
      have hz := hl z rfl
      have q0 : ∀ H', Same H H' → Q (.bl (decide (1 ≤ z.length) && decide (z.length ≤ 12) && z.cps.toList.all fun c => decide (c ∈ letters.cps.toList))) H' := q
      refine iteT ⟨_, rfl, z, rfl, by rw [sizeLine_eq]; omega, _, _, rfl, rfl, _, rfl, ?_⟩
      by_cases h1 : 1 ≤ z.length
      · rw [decide_eq_true h1] at q0
        refine ite2 (fun h1' => ?_) (fun h1' => absurd (decide_eq_true (by omega)) h1')
        by_cases h2 : z.length ≤ 12
        · rw [decide_eq_true h2] at q0
          refine ⟨_, _, rfl, rfl, _, rfl, ite2 (fun h2' => ?_) (fun h2' => absurd (decide_eq_true (by omega)) h2')⟩
          refine ⟨_, rfl, z, rfl, fun D hD => ?_⟩
          refine lc_it walk_str (LcS H D fun i => if (!decide (z.cps.toList.getD i 0 ∈ letters.cps.toList)) then [V.str ⟨#[z.cps.toList.getD i 0]⟩] else []) (LcS.zero hD fun _ => by split <;> simp) (fun _ _ _ _ => trivial) (fun i x H3 H4 hi hP hy => ?_) (fun H3 hP => ?_)
          · obtain ⟨rfl, c, hc, rfl⟩ := hy
            have ec : z.cps.toList.getD i 0 = c := by rw [List.getD_eq_getElem?_getD, Array.getElem?_toList, hc]; rfl
            refine ⟨rfl, _, rfl, c, letters, rfl, rfl, _, rfl, ?_⟩
            refine ite2 (fun h1 => ?_) (fun h1 => ?_)
            · exact ⟨_, rfl, hP.yes hD (Same.refl _) (by rw [ec]; exact if_pos h1) (by have : z.cps.size = z.length := rfl; rw [sizeLine_eq]; omega)⟩
            · exact hP.no (Same.refl _) (by rw [ec]; exact if_neg h1)
          · have e := hP.2.1
            refine ⟨D, _, rfl, .inl (sql_new e), rfl, ?_⟩
            rw [dI]
            have k := flat_nil (fun i => !decide (z.cps.toList.getD i 0 ∈ letters.cps.toList)) (fun i => V.str ⟨#[z.cps.toList.getD i 0]⟩) z.cps.size
            have q' := q0 H3 hP.1
            rw [Bool.true_and, Bool.true_and, ← all_ix (fun c => decide (c ∈ letters.cps.toList)) z.cps.toList 0] at q'
            have eu : (List.range z.cps.toList.length).all (fun i => decide (z.cps.toList.getD i 0 ∈ letters.cps.toList)) = decide (((((List.range z.cps.size).flatMap fun i => if (!decide (z.cps.toList.getD i 0 ∈ letters.cps.toList)) then [V.str ⟨#[z.cps.toList.getD i 0]⟩] else []).length : Nat) : Int) = 0) := by
              rw [Bool.eq_iff_iff, decide_eq_true_eq, Int.natCast_eq_zero, k, Array.length_toList]
              simp only [Bool.not_not]
            rw [eu] at q'
            exact q'
        · rw [decide_eq_false h2] at q0
          refine ⟨_, _, rfl, rfl, _, rfl, ite2 (fun h2' => absurd (of_decide_eq_true h2') (by omega)) (fun h2' => ?_)⟩
          exact q0 H (Same.refl H)
      · rw [decide_eq_false h1] at q0
        refine ite2 (fun h1' => absurd (of_decide_eq_true h1') (by omega)) (fun h1' => ?_)
        exact ⟨_, rfl, iteF (q0 H (Same.refl H))⟩
    | _ => exact iteF (q H (Same.refl H))
theorem ok_effects : FnOk P w K mg base CX0 1 (He.ga K "_law_effects") T.d__law_effects [] spEffects := by
  refine T.F__law_effects.ok sc_law_effects (fun vs H Q E h => ?_) (fun cdv A outer s H vs Q E hr h => ?_)
  · obtain ⟨rfl, _⟩ := h; rfl
  · obtain ⟨rfl, q⟩ := h
    refine ⟨_, PSs.nox (pss_one (ps_ret (pe_tup (pa_cons pe_str (pa_cons pe_str (pa_cons pe_str (pa_cons pe_str pa_nil))))))), ?_⟩
    exact ⟨(by show 4 ≤ sizeLine; decide), fun t ht => q t ht⟩
end
end K01

set_option Elab.async false
set_option linter.all false
set_option maxRecDepth 100000
set_option maxHeartbeats 4000000
namespace K01
open PySem PySem.Spec PyProof.Rows L2
theorem inV_S (t : Str) (l : List Str) : inV (.str t) (l.map V.str) = inS t l := by
  unfold inV inS; rw [List.any_map]; rfl
theorem flat_S (l : List Str) : (l.map V.str).all flatV = true := by rw [List.all_map]; exact List.all_eq_true.mpr fun _ _ => rfl
def effOk : PyData → Bool
  | .tuple es => es.all isEff && upS (es.map strOf)
  | _ => false
theorem eff_long {es : List PyData} (h : ¬ es.length ≤ 4) : effOk (.tuple es) = false := by
  cases q : effOk (.tuple es) with
  | false => rfl
  | true =>
    have q' : (es.all isEff && upS (es.map strOf)) = true := q
    rw [Bool.and_eq_true] at q'
    exact absurd (effs_short q'.1 q'.2) h
theorem strs_dp {K : PySem.W.Frag} {H : Hp} : ∀ {xs : List V} {es : List PyData}, DpAll K H xs es → es.all isEff = true → xs = (es.map strOf).map V.str
  | [], [], _, _ => rfl
  | v :: xs, e :: es, .cons h t, a => by
    rw [List.all_cons, Bool.and_eq_true] at a
    rw [List.map_cons, List.map_cons, ← strs_dp t a.2]
    cases e <;> simp [isEff] at a
    cases h
    rfl
def spEff (K : PySem.W.Frag) : Sp := fun vs H Q _ => ∃ (v : V) (d : PyData), vs = [v] ∧ Vx K H v d ∧ ∀ H', Same H H' → Q (.bl (effOk d)) H'
section
variable {P : Program} {w : World} {K : PySem.W.Frag} {mg : Str → Option Value} {base : Heap} (T : Txt K mg)
include T
theorem effs_at (H : Hp) : SqT K H (He.ga K "EFFECTS") (effs.map V.str) := He.tupB_ok T.tup_EFFECTS H
theorem plain_at (H : Hp) : SqT K H (He.ga K "PLAIN") ((["bool", "int", "unit"] : List Str).map V.str) := He.tupB_ok T.tup_PLAIN H
theorem ok_eff : FnOk P w K mg base CX0 2 (He.ga K "are_effects") T.d_are_effects ["value"] (spEff K) := by
  have G_is_between := ok_between (P := P) (w := w) (base := base) T
  have G_is_ascending := ok_up (P := P) (w := w) (base := base) T
  have hE := effs_at T
  refine T.F_are_effects.ok sc_are_effects (fun vs H Q E h => ?_) (fun cdv A outer s H vs Q E hr h => ?_)
  · obtain ⟨v, d, rfl, _⟩ := h; rfl
  · obtain ⟨v, d, rfl, hv, q⟩ := h
    refine ⟨_, PSs.nox (pss_cons (ps_if (PW.pt (pw_or (pt_not (pt_val (pe_call G_is_between (hr.mono (by omega)) (by rfl) T.g_is_between T.F_is_between.kp T.b_is_between .nil pass0 (pa_cons (pv 0) (pa_cons pe_int (pa_cons pe_int pa_nil)))))) (pw_or1 (pt_not (pt_val (pe_callB (r := rAll K) (cr_all rfl) (by rfl) T.all (by decide +kernel) (pa_cons (pe_lc (own := [("one", 1)]) (g := gName 1) (tt := tYes) (by rfl) sc_are_effects.nd (pi_tup (pv 0)) (blkOk_by (own := [("one", 1)]) (N := ["value", "one"]) (sc := defScope s_are_effects) (by decide +kernel)) (fun _ _ _ _ _ => (pg_name (i := 1) sc_are_effects.nd rfl (.inl rfl))) (fun _ _ _ _ _ => pts_nil) (fun _ _ _ _ _ => (pe_and (pe_callB (r := rIsi K) call_isi (by rfl) T.isinstance (by decide +kernel) (pa_cons (pv 1) (pa_cons (pe_bltn (v := .ty "str") rfl T.str (by decide +kernel) rfl) pa_nil))) (pe_one (pe_cmpR (r := rIn K false) op_in_seq (pv 1) (pe_gt rfl T.g_EFFECTS) (by rfl)))))) pa_nil)))))))
    (pss_one (ps_ret pe_bl))
    pss_nil)
    (pss_one (ps_ret (pe_call G_is_ascending (hr.mono (by omega)) (by rfl) T.g_is_ascending T.F_is_ascending.kp T.b_is_ascending .nil pass0 (pa_cons (pv 0) pa_nil))))), ?_⟩
    refine ⟨_, rfl, v, d, 0, 4, rfl, hv, _, rfl, ?_⟩
    cases d with
    | tuple ds =>
      obtain ⟨a, xs, rfl, ha, hd⟩ := vx_tup hv
      have eb : between (.tuple ds) 0 4 = decide (ds.length ≤ 4) := by
        show (decide ((0 : Int) ≤ (ds.length : Int)) && decide ((ds.length : Int) ≤ 4)) = _
        rw [decide_eq_true (by omega), Bool.true_and]
        exact decide_eq_decide.mpr (by omega)
      rw [eb]
      by_cases hl : ds.length ≤ 4
      · rw [decide_eq_true hl]
        refine iteF ?_
        have hx := hd.len
        refine ⟨_, rfl, a, rfl, ⟨_, ha⟩, fun D hD => ?_⟩
        refine lc_tup (xs := xs) (LcS H D fun i => [V.bl (isEff (ds.getD i .none))]) (LcS.zero hD fun _ => Nat.le_refl 1) (fun i H3 _ hP => hP.1.sqt ha) (fun i x H3 hi hP => ?_) (fun H3 hP => ?_)
        · obtain ⟨di, hdi, hxd⟩ := hd.at hi
          have ei : ds.getD i .none = di := by rw [List.getD_eq_getElem?_getD, hdi]; rfl
          have hx3 := (hxd.same hP.1).x
          have hlt : i < sizeLine := by rw [sizeLine_eq]; have := (List.getElem?_eq_some_iff.mp hdi).1; omega
          refine ⟨rfl, _, rfl, x, _, _, _, isStr di, rfl, .ty _, tyx hx3, ki_str di, _, rfl, ?_⟩
          cases di with
          | str z =>
            obtain rfl := vx_str hx3
            refine iteT ⟨_, rfl, He.ga K "EFFECTS", _, rfl, .inr (hE H3), rfl, flat_S _, ?_⟩
            exact hP.yes hD (Same.refl _) (by rw [ei]; show [V.bl (inS z effs)] = [V.bl (inV (.str z) (effs.map V.str))]; rw [inV_S]) hlt
          | _ => exact iteF (hP.yes hD (Same.refl _) (by rw [ei]; rfl) hlt)
        · have e := hP.2.1
          rw [bls] at e
          refine ⟨D, _, rfl, sql_new e, _, rfl, ?_⟩
          rw [all_id, hx, all_ix isEff ds .none]
          by_cases hE : ds.all isEff = true
          · rw [hE]
            refine iteF ⟨_, rfl, a, ds.map strOf, rfl, ?_, by rw [List.length_map, sizeLine_eq]; omega, fun H4 s4 => ?_⟩
            · rw [← strs_dp hd hE]; exact hP.1.sqt ha
            · have := q H4 (hP.1.trans s4)
              have e4 : effOk (.tuple ds) = upS (ds.map strOf) := by show (ds.all isEff && _) = _; rw [hE, Bool.true_and]
              rw [e4] at this
              exact this
          · rw [eq_false_of_ne_true hE]
            refine iteT ?_
            have := q H3 hP.1
            have e4 : effOk (.tuple ds) = false := by show (ds.all isEff && _) = _; rw [eq_false_of_ne_true hE, Bool.false_and]
            rw [e4] at this
            exact this
      · rw [decide_eq_false hl]
        refine iteT ?_
        have := q H (Same.refl H)
        rw [eff_long hl] at this
        exact this
    | _ => exact iteT (q H (Same.refl H))
end
end K01

set_option Elab.async false
set_option linter.all false
set_option maxRecDepth 100000
set_option maxHeartbeats 4000000
namespace K01
open PySem PySem.Spec PyProof.Rows L2
/-- its texts are short and sound -/
inductive Sml : PyData → Prop where
  | non : Sml .none
  | bl (b : Bool) : Sml (.bool b)
  | int (i : Int) : Sml (.int i)
  | str {x : Str} (h : x.length ≤ 1000) (o : PyData.strOk x = true) : Sml (.str x)
  | lst {ds : List PyData} (l : ds.length ≤ 1000) (h : ∀ d ∈ ds, Sml d) : Sml (.list ds)
  | tup {ds : List PyData} (l : ds.length ≤ 1000) (h : ∀ d ∈ ds, Sml d) : Sml (.tuple ds)
  | dict (k : List (PyData × PyData)) : Sml (.dict k)
theorem Sml.len {x : Str} (h : Sml (.str x)) : x.length ≤ 1000 := by cases h; assumption
theorem Sml.tupIn {ds : List PyData} (h : Sml (.tuple ds)) : ∀ d ∈ ds, Sml d := by cases h; assumption
theorem Sml.tupLen {ds : List PyData} (h : Sml (.tuple ds)) : ds.length ≤ 1000 := by cases h; assumption
theorem Sml.lstIn {ds : List PyData} (h : Sml (.list ds)) : ∀ d ∈ ds, Sml d := by cases h; assumption
mutual
theorem lay0 {K : PySem.W.Frag} {H : Hp} : ∀ (d : PyData) (v : V), Dp K H v d → Sml d → d.canLay0 = true
  | .none, _, _, _ => by rw [PyData.canLay0]
  | .bool b, _, _, _ => by rw [PyData.canLay0]
  | .int i, _, _, _ => by rw [PyData.canLay0]
  | .str x, _, _, s => by rw [PyData.canLay0]; cases s; assumption
  | .list ds, _, h, s => by cases h with | lst hs ha => rw [PyData.canLay0]; exact lay0s ds _ ha s.lstIn
  | .tuple ds, _, h, s => by cases h with | tup hs ha => rw [PyData.canLay0]; exact lay0s ds _ ha s.tupIn
  | .dict _, _, h, _ => by cases h
theorem lay0s {K : PySem.W.Frag} {H : Hp} : ∀ (ds : List PyData) (vs : List V), DpAll K H vs ds → (∀ d ∈ ds, Sml d) → PyData.canLayAll0 ds = true
  | [], _, _, _ => by rw [PyData.canLayAll0]
  | d :: ds, _, h, s => by
    cases h with
    | cons h1 h2 => rw [PyData.canLayAll0, lay0 d _ h1 (s d List.mem_cons_self), lay0s ds _ h2 fun e he => s e (List.mem_cons_of_mem _ he)]; rfl
end
theorem kind_eq {m : Nat} {t : Str} {r : List PyData} : isKind (m + 1) (.tuple (.str t :: r)) = (if plainT t then r.isEmpty
    else if t = "array" then (match r with | [x] => isKind m x | _ => false)
    else if t = "named" then (match r with | [x, y] => isWord x && isWord y | _ => false)
    else if t = "fun" then (match r with | [.tuple p, x, .tuple e] => decide (p.length ≤ 4) && p.all (isKind m) && isKind m x && (e.all isEff && upS (e.map strOf)) | _ => false)
    else false) := by
  rfl
theorem kind_pl {m : Nat} {t : Str} {r : List PyData} (h : plainT t = true) : isKind (m + 1) (.tuple (.str t :: r)) = r.isEmpty := by rw [kind_eq, h, if_pos rfl]
theorem kind_ar {m : Nat} {t : Str} {r : List PyData} (h : plainT t = false) (e : t = "array") : isKind (m + 1) (.tuple (.str t :: r)) = (match r with | [x] => isKind m x | _ => false) := by
  rw [kind_eq, h, if_neg (by simp), if_pos e]
theorem kind_na {m : Nat} {t : Str} {r : List PyData} (h : plainT t = false) (e : ¬ t = "array") (e2 : t = "named") : isKind (m + 1) (.tuple (.str t :: r)) = (match r with | [x, y] => isWord x && isWord y | _ => false) := by
  rw [kind_eq, h, if_neg (by simp), if_neg e, if_pos e2]
theorem kind_fn {m : Nat} {t : Str} {r : List PyData} (h : plainT t = false) (e : ¬ t = "array") (e2 : ¬ t = "named") (e3 : t = "fun") : isKind (m + 1) (.tuple (.str t :: r)) =
    (match r with | [.tuple p, x, .tuple e] => decide (p.length ≤ 4) && p.all (isKind m) && isKind m x && (e.all isEff && upS (e.map strOf)) | _ => false) := by
  rw [kind_eq, h, if_neg (by simp), if_neg e, if_neg e2, if_pos e3]
theorem kind_no {m : Nat} {t : Str} {r : List PyData} (h : plainT t = false) (e : ¬ t = "array") (e2 : ¬ t = "named") (e3 : ¬ t = "fun") : isKind (m + 1) (.tuple (.str t :: r)) = false := by
  rw [kind_eq, h, if_neg (by simp), if_neg e, if_neg e2, if_neg e3]
theorem kind_x {m : Nat} {d : PyData} {r : List PyData} (h : isStr d = false) : isKind (m + 1) (.tuple (d :: r)) = false := by
  cases d <;> first | rfl | cases h
theorem kind_nt {m : Nat} {d : PyData} (h : isTup d = false) : isKind m d = false := by
  cases m with
  | zero => rfl
  | succ m => cases d <;> first | rfl | cases h
theorem kind_nil {m : Nat} : isKind m (.tuple []) = false := by cases m <;> rfl
theorem kind_long {m : Nat} {t : Str} {r : List PyData} (h : 3 < r.length) : isKind (m + 1) (.tuple (.str t :: r)) = false := by
  by_cases h0 : plainT t = true
  · rw [kind_pl h0]; cases r <;> simp at h ⊢
  · have h0 := eq_false_of_ne_true h0
    by_cases h1 : t = "array"
    · rw [kind_ar h0 h1]; match r, h with
      | _ :: _ :: _, _ => rfl
    · by_cases h2 : t = "named"
      · rw [kind_na h0 h1 h2]; match r, h with
        | _ :: _ :: _ :: _, _ => rfl
      · by_cases h3 : t = "fun"
        · rw [kind_fn h0 h1 h2 h3]; match r, h with
          | d :: _ :: e :: _ :: _, _ => cases d <;> first | rfl | (cases e <;> rfl)
        · exact kind_no h0 h1 h2 h3
theorem kind_ar1 {m : Nat} {t : Str} {r : List PyData} (h : plainT t = false) (e : t = "array") (hl : ¬ r.length = 1) : isKind (m + 1) (.tuple (.str t :: r)) = false := by
  rw [kind_ar h e]
  match r, hl with
  | [], _ => rfl
  | [_], h => exact absurd rfl h
  | _ :: _ :: _, _ => rfl
theorem kind_na1 {m : Nat} {t : Str} {r : List PyData} (h : plainT t = false) (e : ¬ t = "array") (e2 : t = "named") (hl : ¬ r.length = 2) : isKind (m + 1) (.tuple (.str t :: r)) = false := by
  rw [kind_na h e e2]
  match r, hl with
  | [], _ => rfl
  | [_], _ => rfl
  | [_, _], h => exact absurd rfl h
  | _ :: _ :: _ :: _, _ => rfl
theorem kind_fn1 {m : Nat} {t : Str} {r : List PyData} (h : plainT t = false) (e : ¬ t = "array") (e2 : ¬ t = "named") (e3 : t = "fun") (hl : ¬ r.length = 3) : isKind (m + 1) (.tuple (.str t :: r)) = false := by
  rw [kind_fn h e e2 e3]
  match r, hl with
  | [], _ => rfl
  | [d], _ => cases d <;> rfl
  | [d, _], _ => cases d <;> rfl
  | [_, _, _], h => exact absurd rfl h
  | d :: _ :: e :: _ :: _, _ => cases d <;> first | rfl | (cases e <;> rfl)
theorem kind_fn2 {m : Nat} {t : Str} {d x e : PyData} (h : plainT t = false) (h1 : ¬ t = "array") (e2 : ¬ t = "named") (e3 : t = "fun") (ht : isTup d = false) : isKind (m + 1) (.tuple [.str t, d, x, e]) = false := by
  rw [kind_fn h h1 e2 e3]
  cases d <;> first | rfl | cases ht
theorem kind_fn3 {m : Nat} {t : Str} {p : List PyData} {x e : PyData} (h : plainT t = false) (h1 : ¬ t = "array") (e2 : ¬ t = "named") (e3 : t = "fun") : isKind (m + 1) (.tuple [.str t, .tuple p, x, e]) = (decide (p.length ≤ 4) && p.all (isKind m) && isKind m x && effOk e) := by
  rw [kind_fn h h1 e2 e3]
  cases e <;> first | rfl | (simp [effOk]; done)
theorem vem {x : V} {i j : Int} (h : i = j) : [x, V.int i] = [x, V.int j] := by rw [h]
theorem len2 {α : Type} {l : List α} (h : l.length = 2) : ∃ a b, l = [a, b] := by
  match l, h with
  | [a, b], _ => exact ⟨a, b, rfl⟩
theorem len3 {α : Type} {l : List α} (h : l.length = 3) : ∃ a b c, l = [a, b, c] := by
  match l, h with
  | [a, b, c], _ => exact ⟨a, b, c, rfl⟩
theorem len1 {α : Type} {l : List α} (h : l.length = 1) : ∃ a, l = [a] := by
  match l, h with
  | [a], _ => exact ⟨a, rfl⟩
def spKind (K : PySem.W.Frag) (n : Nat) : Sp := fun vs H Q _ => ∃ (v : V) (d : PyData) (m : Nat), vs = [v, .int (m : Nat)] ∧ m < n ∧ Vx K H v d ∧ Sml d ∧ ∀ H', Same H H' → Q (.bl (isKind m d)) H'
theorem m_int (m : Nat) : decide (V.int (m : Nat) = V.int 0) = decide (m = 0) := by
  rw [dI]; exact decide_eq_decide.mpr (by omega)
section
variable {P : Program} {w : World} {K : PySem.W.Frag} {mg : Str → Option Value} {base : Heap} (T : Txt K mg)
include T
theorem kind_step (n : Nat) (G_is_kind : FnOk P w K mg base CX0 (n + 3) (He.ga K "is_kind") T.d_is_kind ["value", "deep"] (spKind K n)) :
    FnOk P w K mg base CX0 (n + 4) (He.ga K "is_kind") T.d_is_kind ["value", "deep"] (spKind K (n + 1)) := by
  have G_is_between := ok_between (P := P) (w := w) (base := base) T
  have G_is_word_name := ok_word (P := P) (w := w) (base := base) T
  have G_are_effects := ok_eff (P := P) (w := w) (base := base) T
  have hP := plain_at T
  refine T.F_is_kind.ok sc_is_kind (fun vs H Q E h => ?_) (fun cdv A outer s H vs Q E hr h => ?_)
  · obtain ⟨v, d, m, rfl, _⟩ := h; rfl
  · obtain ⟨v, d, m, rfl, hm, hv, hs, q⟩ := h
    refine ⟨_, PSs.nox (pss_cons (ps_if (PW.pt (pw_or (pt_cmpR op_eq (pv 1) pe_int (nomark _)) (pw_or (pt_not (pt_val (pe_call G_is_between (hr.mono (by omega)) (by rfl) T.g_is_between T.F_is_between.kp T.b_is_between .nil pass0 (pa_cons (pv 0) (pa_cons pe_int (pa_cons pe_int pa_nil)))))) (pw_or1 (pt_not (pt_val (pe_callB (r := rIsi K) call_isi (by rfl) T.isinstance (by decide +kernel) (pa_cons (pe_ix (r := rIxT K) ix_tup (pv 0) pe_int (fun _ _ => rfl)) (pa_cons (pe_bltn (v := .ty "str") rfl T.str (by decide +kernel) rfl) pa_nil)))))))))
    (pss_one (ps_ret pe_bl))
    pss_nil)
    (pss_cons (ps_if (pt_cmpR (r := rIn K false) op_in_seq (pe_ix (r := rIxT K) ix_tup (pv 0) pe_int (fun _ _ => rfl)) (pe_gt rfl T.g_PLAIN) (by rfl))
    (pss_one (ps_ret (pe_cmpR op_eq (pe_callB (r := rLenS K) call_len_seq (by rfl) T.len (by decide +kernel) (pa_cons (pv 0) pa_nil)) pe_int (nomark _))))
    pss_nil)
    (pss_cons (ps_if (pt_cmpR op_eq (pe_ix (r := rIxT K) ix_tup (pv 0) pe_int (fun _ _ => rfl)) pe_str (nomark _))
    (pss_one (ps_ret (pe_and (pe_cmpR op_eq (pe_callB (r := rLenS K) call_len_seq (by rfl) T.len (by decide +kernel) (pa_cons (pv 0) pa_nil)) pe_int (nomark _)) (pe_one (pe_call G_is_kind (hr.mono (by omega)) (by rfl) T.g_is_kind T.F_is_kind.kp T.b_is_kind .nil pass0 (pa_cons (pe_ix (r := rIxT K) ix_tup (pv 0) pe_int (fun _ _ => rfl)) (pa_cons (pe_op op_sub (pv 1) pe_int) pa_nil)))))))
    pss_nil)
    (pss_cons (ps_if (pt_cmpR op_eq (pe_ix (r := rIxT K) ix_tup (pv 0) pe_int (fun _ _ => rfl)) pe_str (nomark _))
    (pss_one (ps_ret (pe_and (pe_cmpR op_eq (pe_callB (r := rLenS K) call_len_seq (by rfl) T.len (by decide +kernel) (pa_cons (pv 0) pa_nil)) pe_int (nomark _)) (pe_and (pe_call G_is_word_name (hr.mono (by omega)) (by rfl) T.g_is_word_name T.F_is_word_name.kp T.b_is_word_name .nil pass0 (pa_cons (pe_ix (r := rIxT K) ix_tup (pv 0) pe_int (fun _ _ => rfl)) pa_nil)) (pe_one (pe_call G_is_word_name (hr.mono (by omega)) (by rfl) T.g_is_word_name T.F_is_word_name.kp T.b_is_word_name .nil pass0 (pa_cons (pe_ix (r := rIxT K) ix_tup (pv 0) pe_int (fun _ _ => rfl)) pa_nil)))))))
    pss_nil)
    (pss_cons (ps_if (PW.pt (pw_or (pt_cmpR op_ne (pe_ix (r := rIxT K) ix_tup (pv 0) pe_int (fun _ _ => rfl)) pe_str (nomark _)) (pw_or (pt_cmpR op_ne (pe_callB (r := rLenS K) call_len_seq (by rfl) T.len (by decide +kernel) (pa_cons (pv 0) pa_nil)) pe_int (nomark _)) (pw_or1 (pt_not (pt_val (pe_call G_is_between (hr.mono (by omega)) (by rfl) T.g_is_between T.F_is_between.kp T.b_is_between .nil pass0 (pa_cons (pe_ix (r := rIxT K) ix_tup (pv 0) pe_int (fun _ _ => rfl)) (pa_cons pe_int (pa_cons (pe_gi (i := 4) rfl T.MOST_PARAMS) pa_nil))))))))))
    (pss_one (ps_ret pe_bl))
    pss_nil)
    (pss_one (ps_ret (pe_and (pe_callB (r := rAll K) (cr_all rfl) (by rfl) T.all (by decide +kernel) (pa_cons (pe_lc (own := [("one", 2)]) (g := gName 2) (tt := tYes) (by rfl) sc_is_kind.nd (pi_tup (pe_ix (r := rIxT K) ix_tup (pv 0) pe_int (fun _ _ => rfl))) (blkOk_by (own := [("one", 2)]) (N := ["value", "deep", "one"]) (sc := defScope s_is_kind) (by decide +kernel)) (fun _ _ _ _ _ => (pg_name (i := 2) sc_is_kind.nd rfl (.inl rfl))) (fun _ _ _ _ _ => pts_nil) (fun _ _ _ _ _ => (pe_call G_is_kind (hr.mono (by omega)) (by rfl) T.g_is_kind T.F_is_kind.kp T.b_is_kind .nil pass0 (pa_cons (pv 2) (pa_cons (pe_op op_sub (pv 1) pe_int) pa_nil))))) pa_nil)) (pe_and (pe_call G_is_kind (hr.mono (by omega)) (by rfl) T.g_is_kind T.F_is_kind.kp T.b_is_kind .nil pass0 (pa_cons (pe_ix (r := rIxT K) ix_tup (pv 0) pe_int (fun _ _ => rfl)) (pa_cons (pe_op op_sub (pv 1) pe_int) pa_nil))) (pe_one (pe_call G_are_effects (hr.mono (by omega)) (by rfl) T.g_are_effects T.F_are_effects.kp T.b_are_effects .nil pass0 (pa_cons (pe_ix (r := rIxT K) ix_tup (pv 0) pe_int (fun _ _ => rfl)) pa_nil)))))))))))), ?_⟩
    refine ⟨_, rfl, rfl, _, rfl, ?_⟩
    rw [m_int]
    cases m with
    | zero => exact iteT (q H (Same.refl H))
    | succ m =>
      refine ite2 (fun h1 => absurd (of_decide_eq_true h1) (by omega)) (fun _ => ?_)
      refine ⟨_, rfl, v, d, 1, 4, rfl, hv, _, rfl, ?_⟩
      by_cases ht : isTup d = true
      rotate_left
      · have e : between d 1 4 = false := by cases d <;> first | rfl | exact absurd rfl ht
        rw [e]
        refine iteT ?_
        have := q H (Same.refl H)
        rw [kind_nt (eq_false_of_ne_true ht)] at this
        exact this
      · obtain ⟨ds, rfl⟩ : ∃ ds, d = .tuple ds := by cases d <;> first | exact ⟨_, rfl⟩ | cases ht
        obtain ⟨a, xs, rfl, ha, hd⟩ := vx_tup hv
        cases ds with
        | nil =>
          refine iteT ?_
          have := q H (Same.refl H)
          rw [kind_nil] at this
          exact this
        | cons d0 r =>
          cases hd with
          | @cons x0 xr _ _ h0 hd =>
          have hxl := hd.len
          have eb : between (.tuple (d0 :: r)) 1 4 = decide (r.length ≤ 3) := by
            show (decide ((1 : Int) ≤ ((d0 :: r).length : Int)) && decide (((d0 :: r).length : Int) ≤ 4)) = _
            rw [List.length_cons, decide_eq_true (by omega), Bool.true_and]
            exact decide_eq_decide.mpr (by omega)
          rw [eb]
          by_cases hl : r.length ≤ 3
          rotate_left
          · rw [decide_eq_false hl]
            refine iteT ?_
            have := q H (Same.refl H)
            have e : isKind (m + 1) (.tuple (d0 :: r)) = false := by
              cases d0 <;> first | exact kind_long (by omega) | rfl
            rw [e] at this
            exact this
          · rw [decide_eq_true hl]
            refine iteF ?_
            have at0 : atI (x0 :: xr) 0 = some x0 := at_v (n := 0) rfl rfl
            refine ⟨_, rfl, a, _, _, x0, rfl, rfl, ha, at0, x0, _, _, _, isStr d0, rfl, .ty _, tyx h0.x, ki_str d0, _, rfl, ?_⟩
            by_cases hst : isStr d0 = true
            rotate_left
            · rw [eq_false_of_ne_true hst]
              refine iteT ?_
              have := q H (Same.refl H)
              rw [kind_x (eq_false_of_ne_true hst)] at this
              exact this
            · rw [hst]
              obtain ⟨t, rfl⟩ : ∃ t, d0 = .str t := by cases d0 <;> first | exact ⟨_, rfl⟩ | cases hst
              obtain rfl := vx_str h0.x
              refine iteF ?_
              refine ⟨_, rfl, a, _, _, _, rfl, rfl, ha, at0, He.ga K "PLAIN", _, rfl, .inr (hP H), rfl, flat_S _, _, rfl, ?_⟩
              rw [show (if false = true then !inV (V.str t) (List.map V.str ["bool", "int", "unit"]) else inV (V.str t) (List.map V.str ["bool", "int", "unit"])) = plainT t from inV_S t _]
              by_cases hp : plainT t = true
              · rw [hp]
                refine iteT ⟨_, rfl, a, _, rfl, .inr ha, rfl, ?_⟩
                rw [dI]
                have := q H (Same.refl H)
                rw [kind_pl hp] at this
                have e : decide ((((V.str t :: xr).length : Nat) : Int) = 1) = r.isEmpty := by
                  rw [Bool.eq_iff_iff, decide_eq_true_eq, List.isEmpty_iff_length_eq_zero, List.length_cons, hxl]; omega
                rw [e]
                exact this
              · have hp := eq_false_of_ne_true hp
                rw [hp]
                have em : ((m + 1 : Nat) : Int) - 1 = (m : Nat) := by omega
                have qq : ∀ {b : Bool} {H' : Hp}, Same H H' → isKind (m + 1) (.tuple (.str t :: r)) = b → Q (.bl b) H' := fun {b H'} s e => by have := q H' s; rw [e] at this; exact this
                have lenI : ∀ (k : Int) (j : Nat), k = (j : Int) + 1 → decide (V.int (((V.str t :: xr).length : Nat) : Int) = V.int k) = decide (r.length = j) := fun k j ek => by
                  rw [dI, List.length_cons, hxl]; exact decide_eq_decide.mpr (by omega)
                refine iteF ⟨_, rfl, a, _, _, _, rfl, rfl, ha, at0, rfl, _, rfl, ?_⟩
                rw [dS]
                by_cases h1 : t = "array"
                · refine ite2 (fun _ => ?_) (fun z => absurd (decide_eq_true h1) z)
                  refine ⟨_, rfl, a, _, rfl, .inr ha, rfl, _, rfl, ?_⟩
                  rw [lenI 2 1 rfl]
                  refine ite2 (fun h2 => ?_) (fun h2 => ?_)
                  · obtain ⟨d1, rfl⟩ := len1 (of_decide_eq_true h2)
                    cases hd with
                    | @cons x1 xr2 _ _ hd1 hd =>
                    refine ⟨_, rfl, a, _, _, x1, rfl, rfl, ha, at_v (n := 1) rfl rfl, _, rfl, _, _, rfl, rfl, x1, d1, m, vem em, by omega, hd1.x, hs.tupIn _ (by simp), fun H' s' => ?_⟩
                    exact qq s' (by rw [kind_ar hp h1])
                  · exact qq (Same.refl H) (kind_ar1 hp h1 (of_decide_eq_false (eq_false_of_ne_true h2)))
                refine ite2 (fun z => absurd (of_decide_eq_true z) h1) (fun _ => ?_)
                refine ⟨_, rfl, a, _, _, _, rfl, rfl, ha, at0, rfl, _, rfl, ?_⟩
                rw [dS]
                by_cases h2 : t = "named"
                · refine ite2 (fun _ => ?_) (fun z => absurd (decide_eq_true h2) z)
                  refine ⟨_, rfl, a, _, rfl, .inr ha, rfl, _, rfl, ?_⟩
                  rw [lenI 3 2 rfl]
                  refine ite2 (fun h3 => ?_) (fun h3 => ?_)
                  · obtain ⟨d1, d2, rfl⟩ := len2 (of_decide_eq_true h3)
                    cases hd with
                    | @cons x1 xr2 _ _ hd1 hd =>
                    cases hd with
                    | @cons x2 xr3 _ _ hd2 hd =>
                    refine ⟨_, rfl, a, _, _, x1, rfl, rfl, ha, at_v (n := 1) rfl rfl, x1, d1, rfl, hd1.x, (fun z e => by subst e; exact (hs.tupIn _ (by simp)).len), fun H' s' => ⟨_, rfl, ?_⟩⟩
                    have ek := kind_na (m := m) (r := [d1, d2]) hp h1 h2
                    by_cases hw : isWord d1 = true
                    · rw [hw]
                      refine iteT ⟨_, rfl, a, _, _, x2, rfl, rfl, s'.sqt ha, at_v (n := 2) rfl rfl, x2, d2, rfl, (hd2.same s').x, (fun z e => by subst e; exact (hs.tupIn _ (by simp)).len), fun H2 s2 => ?_⟩
                      exact qq (s'.trans s2) (by rw [ek]; show (isWord d1 && isWord d2) = _; rw [hw]; rfl)
                    · rw [eq_false_of_ne_true hw]
                      exact iteF (qq s' (by rw [ek]; show (isWord d1 && isWord d2) = _; rw [eq_false_of_ne_true hw]; rfl))
                  · exact qq (Same.refl H) (kind_na1 hp h1 h2 (of_decide_eq_false (eq_false_of_ne_true h3)))
                refine ite2 (fun z => absurd (of_decide_eq_true z) h2) (fun _ => ?_)
                refine ⟨_, rfl, a, _, _, _, rfl, rfl, ha, at0, rfl, _, rfl, ?_⟩
                rw [dS]
                by_cases h3 : t = "fun"
                rotate_left
                · refine ite2 (fun _ => qq (Same.refl H) (kind_no hp h1 h2 h3)) (fun z => absurd (by rw [decide_eq_false h3]; rfl) z)
                refine ite2 (fun z => absurd z (by rw [decide_eq_true h3]; decide)) (fun _ => ?_)
                refine ⟨_, rfl, a, _, rfl, .inr ha, rfl, _, rfl, ?_⟩
                rw [lenI 4 3 rfl]
                by_cases h4 : r.length = 3
                rotate_left
                · refine ite2 (fun _ => qq (Same.refl H) (kind_fn1 hp h1 h2 h3 h4)) (fun z => absurd (by rw [decide_eq_false h4]; rfl) z)
                refine ite2 (fun z => absurd z (by rw [decide_eq_true h4]; decide)) (fun _ => ?_)
                obtain ⟨d1, d2, d3, rfl⟩ := len3 h4
                cases hd with
                | @cons x1 xr2 _ _ hd1 hd =>
                cases hd with
                | @cons x2 xr3 _ _ hd2 hd =>
                cases hd with
                | @cons x3 xr4 _ _ hd3 hd =>
                refine ⟨_, rfl, a, _, _, x1, rfl, rfl, ha, at_v (n := 1) rfl rfl, x1, d1, 0, 4, rfl, hd1.x, _, rfl, ?_⟩
                by_cases ht1 : isTup d1 = true
                rotate_left
                · have e : between d1 0 4 = false := by cases d1 <;> first | rfl | exact absurd rfl ht1
                  rw [e]
                  exact iteT (qq (Same.refl H) (kind_fn2 hp h1 h2 h3 (eq_false_of_ne_true ht1)))
                obtain ⟨ps, rfl⟩ : ∃ ps, d1 = .tuple ps := by cases d1 <;> first | exact ⟨_, rfl⟩ | cases ht1
                have e4 := kind_fn3 (m := m) (p := ps) (x := d2) (e := d3) hp h1 h2 h3
                have eb : between (.tuple ps) 0 4 = decide (ps.length ≤ 4) := by
                  show (decide ((0 : Int) ≤ (ps.length : Int)) && decide ((ps.length : Int) ≤ 4)) = _
                  rw [decide_eq_true (by omega), Bool.true_and]
                  exact decide_eq_decide.mpr (by omega)
                rw [eb]
                by_cases hpl : ps.length ≤ 4
                rotate_left
                · rw [decide_eq_false hpl]
                  exact iteT (qq (Same.refl H) (by rw [e4, decide_eq_false hpl]; rfl))
                rw [decide_eq_true hpl]
                refine iteF ?_
                obtain ⟨b1, ys, rfl, hb1, hys⟩ := vx_tup hd1.x
                have hyl := hys.len
                refine ⟨_, rfl, a, _, _, _, rfl, rfl, ha, at_v (n := 1) rfl rfl, b1, rfl, ⟨_, hb1⟩, fun D hD => ?_⟩
                refine lc_tup (xs := ys) (LcS H D fun i => [V.bl (isKind m (ps.getD i .none))]) (LcS.zero hD fun _ => Nat.le_refl 1) (fun i H3 _ hP => hP.1.sqt hb1) (fun i x H3 hi hP => ?_) (fun H3 hP => ?_)
                · obtain ⟨di, hdi, hxd⟩ := hys.at hi
                  have ei : ps.getD i .none = di := by rw [List.getD_eq_getElem?_getD, hdi]; rfl
                  have hlt : i < sizeLine := by rw [sizeLine_eq]; have := (List.getElem?_eq_some_iff.mp hdi).1; omega
                  refine ⟨rfl, _, rfl, _, rfl, _, _, rfl, rfl, x, di, m, vem em, by omega, (hxd.same hP.1).x, (hs.tupIn _ (by simp)).tupIn _ (List.mem_of_getElem? hdi), fun H4 s4 => ?_⟩
                  exact hP.yes hD s4 (by rw [ei]) hlt
                · have e := hP.2.1
                  rw [bls] at e
                  refine ⟨D, _, rfl, sql_new e, _, rfl, ?_⟩
                  rw [all_id, hyl, all_ix (isKind m) ps .none]
                  by_cases hA : ps.all (isKind m) = true
                  rotate_left
                  · rw [eq_false_of_ne_true hA]
                    exact iteF (qq hP.1 (by rw [e4, decide_eq_true hpl, eq_false_of_ne_true hA]; rfl))
                  rw [hA]
                  refine iteT ⟨_, rfl, a, _, _, x2, rfl, rfl, hP.1.sqt ha, at_v (n := 2) rfl rfl, _, rfl, _, _, rfl, rfl, x2, d2, m, vem em, by omega, (hd2.same hP.1).x, hs.tupIn _ (by simp), fun H4 s4 => ⟨_, rfl, ?_⟩⟩
                  by_cases hB : isKind m d2 = true
                  rotate_left
                  · rw [eq_false_of_ne_true hB]
                    exact iteF (qq (hP.1.trans s4) (by rw [e4, decide_eq_true hpl, hA, eq_false_of_ne_true hB]; rfl))
                  rw [hB]
                  refine iteT ⟨_, rfl, a, _, _, x3, rfl, rfl, (hP.1.trans s4).sqt ha, at_v (n := 3) rfl rfl, x3, d3, rfl, (hd3.same (hP.1.trans s4)).x, fun H5 s5 => ?_⟩
                  exact qq ((hP.1.trans s4).trans s5) (by rw [e4, decide_eq_true hpl, hA, hB]; rfl)
theorem ok_kind : ∀ n, FnOk P w K mg base CX0 (n + 3) (He.ga K "is_kind") T.d_is_kind ["value", "deep"] (spKind K n)
  | 0 => by
    refine T.F_is_kind.ok sc_is_kind (fun vs H Q E h => ?_) (fun cdv A outer s H vs Q E hr h => ?_)
    · obtain ⟨v, d, m, rfl, _⟩ := h; rfl
    · obtain ⟨v, d, m, _, hm, _⟩ := h; exact absurd hm (by omega)
  | n + 1 => kind_step T n (ok_kind n)
end
end K01

set_option Elab.async false
set_option linter.all false
set_option maxRecDepth 100000
set_option maxHeartbeats 4000000
namespace K01
open PySem PySem.Spec PyProof.Rows L2
theorem plain_perm (t : Str) : inS t ["int", "bool", "unit"] = plainT t := by
  unfold plainT inS
  simp only [List.any_cons, List.any_nil, Bool.or_false]
  rw [← Bool.or_assoc, Bool.or_comm (Str.ofString "int" == t), Bool.or_assoc]
theorem eqv_nil (ds : List PyData) : PyData.eqv (.tuple ds) (.tuple []) = ds.isEmpty := by
  rw [e_tup]
  cases ds
  · rw [ea_nil]; rfl
  · rw [ea_cn]; rfl
theorem dep_nil (d : PyData) : min d.depth (PyData.tuple []).depth ≤ 64 := by
  have : (PyData.tuple []).depth = 1 := by rw [PyData.depth, PyData.depthAll]
  omega
theorem lay_nil : (PyData.tuple []).canLay0 = true := by rw [PyData.canLay0, PyData.canLayAll0]
theorem isTup_of {d : PyData} (h : isTup d = true) : ∃ ds, d = .tuple ds := by cases d <;> first | exact ⟨_, rfl⟩ | cases h
theorem isStr_of {d : PyData} (h : isStr d = true) : ∃ ds, d = .str ds := by cases d <;> first | exact ⟨_, rfl⟩ | cases h
section
variable {P : Program} {w : World} {K : PySem.W.Frag} {mg : Str → Option Value} {base : Heap} (T : Txt K mg)
include T
theorem lkind_step (n : Nat) (G__law_is_kind : FnOk P w K mg base CX0 (n + 3) (He.ga K "_law_is_kind") T.d__law_is_kind ["value", "deep"] (spKind K n)) :
    FnOk P w K mg base CX0 (n + 4) (He.ga K "_law_is_kind") T.d__law_is_kind ["value", "deep"] (spKind K (n + 1)) := by
  have G__law_word := ok_law_word (P := P) (w := w) (base := base) T
  have G__law_is_up := ok_law_up (P := P) (w := w) (base := base) T
  have G__law_effects := ok_effects (P := P) (w := w) (base := base) T
  refine T.F__law_is_kind.ok sc_law_is_kind (fun vs H Q E h => ?_) (fun cdv A outer s H vs Q E hr h => ?_)
  · obtain ⟨v, d, m, rfl, _⟩ := h; rfl
  · obtain ⟨v, d, m, rfl, hm, hv, hs, q⟩ := h
    refine ⟨_, PSs.nox (pss_cons (ps_if (PW.pt (pw_or (pt_cmpR op_eq (pv 1) pe_int (nomark _)) (pw_or (pt_not (pt_val (pe_callB (r := rIsi K) call_isi (by rfl) T.isinstance (by decide +kernel) (pa_cons (pv 0) (pa_cons (pe_bltn (v := .ty "tuple") rfl T.tuple (by decide +kernel) rfl) pa_nil))))) (pw_or (pt_cmpR (r := rEqM K) (op_eqM hr.units) (pv 0) (pe_tup pa_nil) (nomark _)) (pw_or1 (pt_not (pt_val (pe_callB (r := rIsi K) call_isi (by rfl) T.isinstance (by decide +kernel) (pa_cons (pe_ix (r := rIxT K) ix_tup (pv 0) pe_int (fun _ _ => rfl)) (pa_cons (pe_bltn (v := .ty "str") rfl T.str (by decide +kernel) rfl) pa_nil))))))))))
    (pss_one (ps_ret pe_bl))
    pss_nil)
    (pss_cons (ps_if (pt_cmpR (r := rIn K false) op_in_seq (pe_ix (r := rIxT K) ix_tup (pv 0) pe_int (fun _ _ => rfl)) (pe_tup (pa_cons pe_str (pa_cons pe_str (pa_cons pe_str pa_nil)))) (by rfl))
    (pss_one (ps_ret (pe_cmpR op_eq (pe_callB (r := rLenS K) call_len_seq (by rfl) T.len (by decide +kernel) (pa_cons (pv 0) pa_nil)) pe_int (nomark _))))
    pss_nil)
    (pss_cons (ps_if (pt_cmpR op_eq (pe_ix (r := rIxT K) ix_tup (pv 0) pe_int (fun _ _ => rfl)) pe_str (nomark _))
    (pss_one (ps_ret (pe_and (pe_cmpR op_eq (pe_callB (r := rLenS K) call_len_seq (by rfl) T.len (by decide +kernel) (pa_cons (pv 0) pa_nil)) pe_int (nomark _)) (pe_one (pe_call G__law_is_kind (hr.mono (by omega)) (by rfl) T.g__law_is_kind T.F__law_is_kind.kp T.b__law_is_kind .nil pass0 (pa_cons (pe_ix (r := rIxT K) ix_tup (pv 0) pe_int (fun _ _ => rfl)) (pa_cons (pe_op op_sub (pv 1) pe_int) pa_nil)))))))
    pss_nil)
    (pss_cons (ps_if (pt_cmpR op_eq (pe_ix (r := rIxT K) ix_tup (pv 0) pe_int (fun _ _ => rfl)) pe_str (nomark _))
    (pss_one (ps_ret (pe_and (pe_cmpR op_eq (pe_callB (r := rLenS K) call_len_seq (by rfl) T.len (by decide +kernel) (pa_cons (pv 0) pa_nil)) pe_int (nomark _)) (pe_and (pe_call G__law_word (hr.mono (by omega)) (by rfl) T.g__law_word T.F__law_word.kp T.b__law_word .nil pass0 (pa_cons (pe_ix (r := rIxT K) ix_tup (pv 0) pe_int (fun _ _ => rfl)) pa_nil)) (pe_one (pe_call G__law_word (hr.mono (by omega)) (by rfl) T.g__law_word T.F__law_word.kp T.b__law_word .nil pass0 (pa_cons (pe_ix (r := rIxT K) ix_tup (pv 0) pe_int (fun _ _ => rfl)) pa_nil)))))))
    pss_nil)
    (pss_cons (ps_if (PW.pt (pw_or (pt_cmpR op_ne (pe_ix (r := rIxT K) ix_tup (pv 0) pe_int (fun _ _ => rfl)) pe_str (nomark _)) (pw_or (pt_cmpR op_ne (pe_callB (r := rLenS K) call_len_seq (by rfl) T.len (by decide +kernel) (pa_cons (pv 0) pa_nil)) pe_int (nomark _)) (pw_or (pt_not (pt_val (pe_callB (r := rIsi K) call_isi (by rfl) T.isinstance (by decide +kernel) (pa_cons (pe_ix (r := rIxT K) ix_tup (pv 0) pe_int (fun _ _ => rfl)) (pa_cons (pe_bltn (v := .ty "tuple") rfl T.tuple (by decide +kernel) rfl) pa_nil))))) (pw_or (pt_cmpR op_gt (pe_callB (r := rLenS K) call_len_seq (by rfl) T.len (by decide +kernel) (pa_cons (pe_ix (r := rIxT K) ix_tup (pv 0) pe_int (fun _ _ => rfl)) pa_nil)) pe_int (nomark _)) (pw_or1 (pt_not (pt_val (pe_callB (r := rIsi K) call_isi (by rfl) T.isinstance (by decide +kernel) (pa_cons (pe_ix (r := rIxT K) ix_tup (pv 0) pe_int (fun _ _ => rfl)) (pa_cons (pe_bltn (v := .ty "tuple") rfl T.tuple (by decide +kernel) rfl) pa_nil)))))))))))
    (pss_one (ps_ret pe_bl))
    pss_nil)
    (pss_cons (ps_if (PW.pt (pw_or (pt_cmpR op_gt (pe_callB (r := rLenS K) call_len_seq (by rfl) T.len (by decide +kernel) (pa_cons (pe_lc (own := [("one", 2)]) (g := gName 2) (by rfl) sc_law_is_kind.nd (pi_tup (pe_ix (r := rIxT K) ix_tup (pv 0) pe_int (fun _ _ => rfl))) (blkOk_by (own := [("one", 2)]) (N := ["value", "deep", "one"]) (sc := defScope s_law_is_kind) (by decide +kernel)) (fun _ _ _ _ _ => (pg_name (i := 2) sc_law_is_kind.nd rfl (.inl rfl))) (fun _ _ _ _ _ => pts_one (PW.pt (pw_or (pt_not (pt_val (pe_callB (r := rIsi K) call_isi (by rfl) T.isinstance (by decide +kernel) (pa_cons (pv 2) (pa_cons (pe_bltn (v := .ty "str") rfl T.str (by decide +kernel) rfl) pa_nil))))) (pw_or1 (pt_cmpR (r := rIn K true) op_notIn_seq (pv 2) (pe_call0 G__law_effects (hr.mono (by omega)) (by rfl) T.g__law_effects T.F__law_effects.kp T.b__law_effects .nil pass0) (by rfl)))))) (fun _ _ _ _ _ => (pv 2))) pa_nil)) pe_int (nomark _)) (pw_or1 (pt_not (pt_val (pe_call G__law_is_up (hr.mono (by omega)) (by rfl) T.g__law_is_up T.F__law_is_up.kp T.b__law_is_up .nil pass0 (pa_cons (pe_ix (r := rIxT K) ix_tup (pv 0) pe_int (fun _ _ => rfl)) pa_nil)))))))
    (pss_one (ps_ret pe_bl))
    pss_nil)
    (pss_one (ps_ret (pe_and (pe_cmpR op_eq (pe_callB (r := rLenS K) call_len_seq (by rfl) T.len (by decide +kernel) (pa_cons (pe_lc (own := [("one", 2)]) (g := gName 2) (by rfl) sc_law_is_kind.nd (pi_tup (pe_ix (r := rIxT K) ix_tup (pv 0) pe_int (fun _ _ => rfl))) (blkOk_by (own := [("one", 2)]) (N := ["value", "deep", "one"]) (sc := defScope s_law_is_kind) (by decide +kernel)) (fun _ _ _ _ _ => (pg_name (i := 2) sc_law_is_kind.nd rfl (.inl rfl))) (fun _ _ _ _ _ => pts_one (pt_not (pt_val (pe_call G__law_is_kind (hr.mono (by omega)) (by rfl) T.g__law_is_kind T.F__law_is_kind.kp T.b__law_is_kind .nil pass0 (pa_cons (pv 2) (pa_cons (pe_op op_sub (pv 1) pe_int) pa_nil)))))) (fun _ _ _ _ _ => (pv 2))) pa_nil)) pe_int (nomark _)) (pe_one (pe_call G__law_is_kind (hr.mono (by omega)) (by rfl) T.g__law_is_kind T.F__law_is_kind.kp T.b__law_is_kind .nil pass0 (pa_cons (pe_ix (r := rIxT K) ix_tup (pv 0) pe_int (fun _ _ => rfl)) (pa_cons (pe_op op_sub (pv 1) pe_int) pa_nil))))))))))))), ?_⟩
    refine ⟨_, rfl, rfl, _, rfl, ?_⟩
    rw [m_int]
    cases m with
    | zero => exact iteT (q H (Same.refl H))
    | succ m =>
      refine ite2 (fun h1 => absurd (of_decide_eq_true h1) (by omega)) (fun _ => ?_)
      refine ⟨_, rfl, v, _, _, _, isTup d, rfl, .ty _, tyx hv, ki_tup d, _, rfl, ?_⟩
      by_cases ht : isTup d = true
      rotate_left
      · rw [eq_false_of_ne_true ht]
        refine iteT ?_
        have := q H (Same.refl H)
        rw [kind_nt (eq_false_of_ne_true ht)] at this
        exact this
      · rw [ht]
        obtain ⟨ds, rfl⟩ := isTup_of ht
        refine iteF ?_
        obtain ⟨a, xs, rfl, ha0, hdo⟩ := vx_tup hv
        refine ⟨_, rfl, Nat.zero_le _, fun t0 ht0 => ?_⟩
        have sa : Same H (upd H t0 (.tup [])) := Same.one ht0
        have hdp : Dp K (upd H t0 (.tup [])) (.ref a) (.tuple ds) := Dp.same (.tup ha0 hdo) sa
        refine ⟨.tuple ds, .tuple [], hdp, .tup (sqt_new upd_same) .nil, lay0 _ _ hdp hs, lay_nil, dep_nil _, _, rfl, ?_⟩
        rw [eqv_nil]
        cases ds with
        | nil =>
          refine iteT ?_
          have := q _ sa
          rw [kind_nil] at this
          exact this
        | cons d0 r =>
          refine iteF ?_
          have q0 := fun H' (s : Same (upd H t0 (.tup [])) H') => q H' (sa.trans s)
          have ha := sa.sqt ha0
          have hd := hdo.same sa
          clear hdp ha0 hv q hdo
          revert q0 ha hd
          generalize upd H t0 (.tup []) = H
          intro q ha hd
          cases hd with
          | @cons x0 xr _ _ h0 hd =>
          have hxl := hd.len
          have at0 : atI (x0 :: xr) 0 = some x0 := at_v (n := 0) rfl rfl
          refine ⟨_, rfl, a, _, _, x0, rfl, rfl, ha, at0, x0, _, _, _, isStr d0, rfl, .ty _, tyx h0.x, ki_str d0, _, rfl, ?_⟩
          by_cases hst : isStr d0 = true
          rotate_left
          · rw [eq_false_of_ne_true hst]
            refine iteT ?_
            have := q H (Same.refl H)
            rw [kind_x (eq_false_of_ne_true hst)] at this
            exact this
          · rw [hst]
            obtain ⟨t, rfl⟩ := isStr_of hst
            obtain rfl := vx_str h0.x
            refine iteF ?_
            refine ⟨_, rfl, a, _, _, _, rfl, rfl, ha, at0, (by show 3 ≤ sizeLine; decide), fun t1 ht1 => ?_⟩
            refine ⟨t1, (["int", "bool", "unit"] : List Str).map V.str, rfl, .inr (sqt_new upd_same), rfl, flat_S _, _, rfl, ?_⟩
            rw [show (if false = true then !inV (V.str t) (List.map V.str ["int", "bool", "unit"]) else inV (V.str t) (List.map V.str ["int", "bool", "unit"])) = plainT t from (inV_S t _).trans (plain_perm t)]
            have sb : Same H (upd H t1 (.tup ((["int", "bool", "unit"] : List Str).map V.str))) := Same.one ht1
            have q0 := fun H' (s : Same (upd H t1 (.tup ((["int", "bool", "unit"] : List Str).map V.str))) H') => q H' (sb.trans s)
            have ha1 := sb.sqt ha
            have hd1 := hd.same sb
            have hh1 := h0.same sb
            clear ha hd q h0
            revert q0 ha1 hd1 hh1
            rw [show ([Str.ofString "int", Str.ofString "bool", Str.ofString "unit"].map V.str) = [V.str "int", V.str "bool", V.str "unit"] from rfl]
            generalize upd H t1 (.tup [V.str "int", V.str "bool", V.str "unit"]) = H
            intro q ha hd h0
            by_cases hp : plainT t = true
            · rw [hp]
              refine iteT ⟨_, rfl, a, _, rfl, .inr ha, rfl, ?_⟩
              rw [dI]
              have := q H (Same.refl H)
              rw [kind_pl hp] at this
              have e : decide ((((V.str t :: xr).length : Nat) : Int) = 1) = r.isEmpty := by
                rw [Bool.eq_iff_iff, decide_eq_true_eq, List.isEmpty_iff_length_eq_zero, List.length_cons, hxl]; omega
              rw [e]
              exact this
            · have hp := eq_false_of_ne_true hp
              rw [hp]
              have em : ((m + 1 : Nat) : Int) - 1 = (m : Nat) := by omega
              have qq : ∀ {b : Bool} {H' : Hp}, Same H H' → isKind (m + 1) (.tuple (.str t :: r)) = b → Q (.bl b) H' := fun {b H'} s e => by have := q H' s; rw [e] at this; exact this
              have lenI : ∀ (k : Int) (j : Nat), k = (j : Int) + 1 → decide (V.int (((V.str t :: xr).length : Nat) : Int) = V.int k) = decide (r.length = j) := fun k j ek => by
                rw [dI, List.length_cons, hxl]; exact decide_eq_decide.mpr (by omega)
              refine iteF ⟨_, rfl, a, _, _, _, rfl, rfl, ha, at0, rfl, _, rfl, ?_⟩
              rw [dS]
              by_cases h1 : t = "array"
              · refine ite2 (fun _ => ?_) (fun z => absurd (decide_eq_true h1) z)
                refine ⟨_, rfl, a, _, rfl, .inr ha, rfl, _, rfl, ?_⟩
                rw [lenI 2 1 rfl]
                refine ite2 (fun h2 => ?_) (fun h2 => ?_)
                · obtain ⟨d1, rfl⟩ := len1 (of_decide_eq_true h2)
                  cases hd with
                  | @cons x1 xr2 _ _ hd1 hd =>
                  refine ⟨_, rfl, a, _, _, x1, rfl, rfl, ha, at_v (n := 1) rfl rfl, _, rfl, _, _, rfl, rfl, x1, d1, m, vem em, by omega, hd1.x, hs.tupIn _ (by simp), fun H' s' => ?_⟩
                  exact qq s' (by rw [kind_ar hp h1])
                · exact qq (Same.refl H) (kind_ar1 hp h1 (of_decide_eq_false (eq_false_of_ne_true h2)))
              refine ite2 (fun z => absurd (of_decide_eq_true z) h1) (fun _ => ?_)
              refine ⟨_, rfl, a, _, _, _, rfl, rfl, ha, at0, rfl, _, rfl, ?_⟩
              rw [dS]
              by_cases h2 : t = "named"
              · refine ite2 (fun _ => ?_) (fun z => absurd (decide_eq_true h2) z)
                refine ⟨_, rfl, a, _, rfl, .inr ha, rfl, _, rfl, ?_⟩
                rw [lenI 3 2 rfl]
                refine ite2 (fun h3 => ?_) (fun h3 => ?_)
                · obtain ⟨d1, d2, rfl⟩ := len2 (of_decide_eq_true h3)
                  cases hd with
                  | @cons x1 xr2 _ _ hd1 hd =>
                  cases hd with
                  | @cons x2 xr3 _ _ hd2 hd =>
                  refine ⟨_, rfl, a, _, _, x1, rfl, rfl, ha, at_v (n := 1) rfl rfl, x1, d1, rfl, hd1.x, (fun z e => by subst e; exact (hs.tupIn _ (by simp)).len), fun H' s' => ⟨_, rfl, ?_⟩⟩
                  have ek := kind_na (m := m) (r := [d1, d2]) hp h1 h2
                  by_cases hw : isWord d1 = true
                  · rw [hw]
                    refine iteT ⟨_, rfl, a, _, _, x2, rfl, rfl, s'.sqt ha, at_v (n := 2) rfl rfl, x2, d2, rfl, (hd2.same s').x, (fun z e => by subst e; exact (hs.tupIn _ (by simp)).len), fun H2 s2 => ?_⟩
                    exact qq (s'.trans s2) (by rw [ek]; show (isWord d1 && isWord d2) = _; rw [hw]; rfl)
                  · rw [eq_false_of_ne_true hw]
                    exact iteF (qq s' (by rw [ek]; show (isWord d1 && isWord d2) = _; rw [eq_false_of_ne_true hw]; rfl))
                · exact qq (Same.refl H) (kind_na1 hp h1 h2 (of_decide_eq_false (eq_false_of_ne_true h3)))
              refine ite2 (fun z => absurd (of_decide_eq_true z) h2) (fun _ => ?_)
              refine ⟨_, rfl, a, _, _, _, rfl, rfl, ha, at0, rfl, _, rfl, ?_⟩
              rw [dS]
              by_cases h3 : t = "fun"
              rotate_left
              · refine ite2 (fun _ => qq (Same.refl H) (kind_no hp h1 h2 h3)) (fun z => absurd (by rw [decide_eq_false h3]; rfl) z)
              refine ite2 (fun z => absurd z (by rw [decide_eq_true h3]; decide)) (fun _ => ?_)
              refine ⟨_, rfl, a, _, rfl, .inr ha, rfl, _, rfl, ?_⟩
              rw [lenI 4 3 rfl]
              by_cases h4 : r.length = 3
              rotate_left
              · refine ite2 (fun _ => qq (Same.refl H) (kind_fn1 hp h1 h2 h3 h4)) (fun z => absurd (by rw [decide_eq_false h4]; rfl) z)
              refine ite2 (fun z => absurd z (by rw [decide_eq_true h4]; decide)) (fun _ => ?_)
              obtain ⟨d1, d2, d3, rfl⟩ := len3 h4
              cases hd with
              | @cons x1 xr2 _ _ hd1 hd =>
              cases hd with
              | @cons x2 xr3 _ _ hd2 hd =>
              cases hd with
              | @cons x3 xr4 _ _ hd3 hd =>
              refine ⟨_, rfl, a, _, _, x1, rfl, rfl, ha, at_v (n := 1) rfl rfl, x1, _, _, _, isTup d1, rfl, .ty _, tyx hd1.x, ki_tup d1, _, rfl, ?_⟩
              by_cases ht1 : isTup d1 = true
              rotate_left
              · rw [eq_false_of_ne_true ht1]
                exact iteT (qq (Same.refl H) (kind_fn2 hp h1 h2 h3 (eq_false_of_ne_true ht1)))
              rw [ht1]
              obtain ⟨ps, rfl⟩ := isTup_of ht1
              have e4 := kind_fn3 (m := m) (p := ps) (x := d2) (e := d3) hp h1 h2 h3
              obtain ⟨b1, ys, rfl, hb1, hys⟩ := vx_tup hd1.x
              have hyl := hys.len
              refine iteF ⟨_, rfl, a, _, _, _, rfl, rfl, ha, at_v (n := 1) rfl rfl, b1, _, rfl, .inr hb1, _, _, rfl, rfl, _, rfl, ?_⟩
              rw [hyl]
              by_cases hpl : ps.length ≤ 4
              rotate_left
              · exact ite2 (fun _ => qq (Same.refl H) (by rw [e4, decide_eq_false hpl]; rfl)) (fun z => absurd (decide_eq_true (by omega)) z)
              refine ite2 (fun z => absurd (of_decide_eq_true z) (by omega)) (fun _ => ?_)
              refine ⟨_, rfl, a, _, _, x3, rfl, rfl, ha, at_v (n := 3) rfl rfl, x3, _, _, _, isTup d3, rfl, .ty _, tyx hd3.x, ki_tup d3, _, rfl, ?_⟩
              by_cases ht3 : isTup d3 = true
              rotate_left
              · rw [eq_false_of_ne_true ht3]
                refine iteT (qq (Same.refl H) ?_)
                rw [e4]
                have : effOk d3 = false := by cases d3 <;> first | rfl | exact absurd rfl ht3
                rw [this, Bool.and_false]
              rw [ht3]
              obtain ⟨es, rfl⟩ := isTup_of ht3
              obtain ⟨b3, zs, rfl, hb3, hzs⟩ := vx_tup hd3.x
              have hzl := hzs.len
              refine iteF ⟨_, rfl, a, _, _, _, rfl, rfl, ha, at_v (n := 3) rfl rfl, b3, rfl, ⟨_, hb3⟩, fun D hD => ?_⟩
              refine lc_tup (xs := zs) (LcS H D fun i => if !isEff (es.getD i .none) then [zs.getD i .non] else []) (LcS.zero hD fun _ => by split <;> simp) (fun i H3 _ hP => hP.1.sqt hb3) (fun i x H3 hi hP => ?_) (fun H3 hP => ?_)
              · obtain ⟨di, hdi, hxd⟩ := hzs.at hi
                have ei : es.getD i .none = di := by rw [List.getD_eq_getElem?_getD, hdi]; rfl
                have ex : zs.getD i .non = x := by rw [List.getD_eq_getElem?_getD, hi]; rfl
                have hlt : i < sizeLine := by
                  have hb := hP.1.sqt hb3
                  have h1 := (List.getElem?_eq_some_iff.mp hi).1
                  have h5 := (hs.tupIn (.tuple es) (by simp)).tupLen
                  rw [sizeLine_eq]; omega
                have hx3 := (hxd.same hP.1).x
                refine ⟨rfl, _, rfl, x, _, _, _, isStr di, rfl, .ty _, tyx hx3, ki_str di, _, rfl, ?_⟩
                cases di with
                | str z =>
                  obtain rfl := vx_str hx3
                  refine iteF ⟨_, rfl, rfl, fun c hc => ?_⟩
                  refine ⟨c, effs.map V.str, rfl, .inr (sqt_new upd_same), rfl, flat_S _, _, rfl, ?_⟩
                  rw [show (if true = true then !inV (V.str z) (effs.map V.str) else inV (V.str z) (effs.map V.str)) = !inS z effs from congrArg (!·) (inV_S z _)]
                  refine ite2 (fun h1 => ?_) (fun h1 => ?_)
                  · exact ⟨_, rfl, hP.yes hD (Same.one hc) (by rw [ei, ex]; exact if_pos h1) hlt⟩
                  · exact hP.no (Same.one hc) (by rw [ei, ex]; exact if_neg h1)
                | _ => exact iteT (iteT ⟨_, rfl, hP.yes hD (Same.refl _) (by rw [ei, ex]; exact if_pos rfl) hlt⟩)
              · have e := hP.2.1
                refine ⟨D, _, rfl, .inl (sql_new e), _, _, rfl, rfl, _, rfl, ?_⟩
                have k := flat_nil (fun i => !isEff (es.getD i .none)) (fun i => zs.getD i .non) zs.length
                simp only [Bool.not_not] at k
                rw [hzl, all_ix isEff es .none] at k
                by_cases hE : es.all isEff = true
                rotate_left
                · refine ite2 (fun _ => qq hP.1 ?_) (fun z => absurd (decide_eq_true ?_) z)
                  · rw [e4]; show (_ && (es.all isEff && _)) = false; rw [eq_false_of_ne_true hE, Bool.false_and, Bool.and_false]
                  · rw [hzl]
                    have : ¬ ((List.range es.length).flatMap fun i => if !isEff (es.getD i .none) then [zs.getD i .non] else []).length = 0 := fun z => hE (k.mp z)
                    omega
                refine ite2 (fun z => ?_) (fun _ => ?_)
                · have z := of_decide_eq_true z
                  rw [hzl] at z
                  have := k.mpr hE
                  omega
                have h4l : es.length < sizeLine := by have h5 := (hs.tupIn (.tuple es) (by simp)).tupLen; rw [sizeLine_eq]; omega
                refine ⟨_, rfl, a, _, _, _, rfl, rfl, hP.1.sqt ha, at_v (n := 3) rfl rfl, b3, es.map strOf, rfl, by rw [← strs_dp hzs hE]; exact hP.1.sqt hb3, by rw [List.length_map]; exact h4l, fun H4 s4 => ⟨_, rfl, ?_⟩⟩
                have ee : effOk (.tuple es) = upS (es.map strOf) := by show (es.all isEff && _) = _; rw [hE, Bool.true_and]
                rw [ee] at e4
                by_cases hU : upS (es.map strOf) = true
                rotate_left
                · rw [eq_false_of_ne_true hU]
                  exact iteT (qq (hP.1.trans s4) (by rw [e4, eq_false_of_ne_true hU, Bool.and_false]))
                rw [hU] at e4 ⊢
                have s5 := hP.1.trans s4
                refine iteF ⟨_, rfl, a, _, _, _, rfl, rfl, s5.sqt ha, at_v (n := 1) rfl rfl, b1, rfl, ⟨_, s5.sqt hb1⟩, fun D2 hD2 => ?_⟩
                refine lc_tup (xs := ys) (LcS H4 D2 fun i => if !isKind m (ps.getD i .none) then [ys.getD i .non] else []) (LcS.zero hD2 fun _ => by split <;> simp) (fun i H3 _ hP => hP.1.sqt (s5.sqt hb1)) (fun i x H6 hi hP6 => ?_) (fun H6 hP6 => ?_)
                · obtain ⟨di, hdi, hxd⟩ := hys.at hi
                  have ei : ps.getD i .none = di := by rw [List.getD_eq_getElem?_getD, hdi]; rfl
                  have ex : ys.getD i .non = x := by rw [List.getD_eq_getElem?_getD, hi]; rfl
                  have hlt : i < sizeLine := by rw [sizeLine_eq]; have := (List.getElem?_eq_some_iff.mp hdi).1; omega
                  refine ⟨rfl, _, rfl, _, rfl, _, _, rfl, rfl, x, di, m, vem em, by omega, (hxd.same (s5.trans hP6.1)).x, (hs.tupIn _ (by simp)).tupIn _ (List.mem_of_getElem? hdi), fun H7 s7 => ⟨_, rfl, ?_⟩⟩
                  refine ite2 (fun h1 => ?_) (fun h1 => ?_)
                  · exact ⟨_, rfl, hP6.yes hD2 s7 (by rw [ei, ex]; exact if_pos h1) hlt⟩
                  · exact hP6.no s7 (by rw [ei, ex]; exact if_neg h1)
                · have e6 := hP6.2.1
                  refine ⟨D2, _, rfl, .inl (sql_new e6), rfl, _, rfl, ?_⟩
                  have k6 := flat_nil (fun i => !isKind m (ps.getD i .none)) (fun i => ys.getD i .non) ys.length
                  simp only [Bool.not_not] at k6
                  rw [hyl, all_ix (isKind m) ps .none] at k6
                  rw [dI]
                  by_cases hA : ps.all (isKind m) = true
                  rotate_left
                  · refine ite2 (fun z => ?_) (fun z => ?_)
                    · have z := of_decide_eq_true z
                      rw [hyl] at z
                      exact absurd (k6.mp (by omega)) hA
                    · exact qq (s5.trans hP6.1) (by rw [e4, eq_false_of_ne_true hA, Bool.and_false]; rfl)
                  refine ite2 (fun _ => ?_) (fun z => absurd (decide_eq_true (by rw [hyl]; have := k6.mpr hA; omega)) z)
                  have s6 := s5.trans hP6.1
                  refine ⟨_, rfl, a, _, _, x2, rfl, rfl, s6.sqt ha, at_v (n := 2) rfl rfl, _, rfl, _, _, rfl, rfl, x2, d2, m, vem em, by omega, (hd2.same s6).x, hs.tupIn _ (by simp), fun H8 s8 => ?_⟩
                  exact qq (s6.trans s8) (by rw [e4, decide_eq_true hpl, hA, Bool.and_true]; rfl)
theorem ok_lkind : ∀ n, FnOk P w K mg base CX0 (n + 3) (He.ga K "_law_is_kind") T.d__law_is_kind ["value", "deep"] (spKind K n)
  | 0 => by
    refine T.F__law_is_kind.ok sc_law_is_kind (fun vs H Q E h => ?_) (fun cdv A outer s H vs Q E hr h => ?_)
    · obtain ⟨v, d, m, rfl, _⟩ := h; rfl
    · obtain ⟨v, d, m, _, hm, _⟩ := h; exact absurd hm (by omega)
  | n + 1 => lkind_step T n (ok_lkind n)
end
end K01

set_option Elab.async false
set_option linter.all false
set_option maxRecDepth 100000
set_option maxHeartbeats 4000000
namespace K01
open PySem PySem.Spec PyProof.Rows L2
open RZ in
theorem walk_zipT {K : PySem.W.Frag} {a b : Addr} {xs ys : List V} {n : Nat} (hn : n = min xs.length ys.length) : Walk (ItzT K a b) n (fun H => SqT K H a xs ∧ SqT K H b ys) (YPair (fun i => xs[i]?) (fun i => ys[i]?)) := by
  subst hn
  refine ⟨fun i _ hi q => ?_, fun _ q => ⟨xs, ys, q.1, q.2, by omega⟩, fun i H v H' _ q y => ?_⟩
  · have h1 : i < xs.length := by omega
    have h2 : i < ys.length := by omega
    exact ⟨xs, ys, xs[i], ys[i], q.1, q.2, by simp [h1], by simp [h2]⟩
  · obtain ⟨T, x, z, h1, h2, h3, h4, h5⟩ := y
    exact ⟨T, x, z, h1, h2, h3, h4 xs q.1, h5 ys q.2⟩
theorem strOkS (e : Ef) : PyData.canLayAll0 (sds (effL e)) = true := by
  obtain ⟨a, b, c, d⟩ := e
  cases a <;> cases b <;> cases c <;> cases d <;> decide +kernel
theorem lay_tag7 : ∀ i : Fin 7, PyData.strOk (tags.getD i.1 "") = true := by decide +kernel
theorem lay_tag (k : Kd) : PyData.strOk (tag k) = true := by rw [tag_at]; exact lay_tag7 ⟨tagN k, tagN_lt k⟩
theorem ly_cons {d : PyData} {l : List PyData} : PyData.canLayAll0 (d :: l) = (d.canLay0 && PyData.canLayAll0 l) := by rw [PyData.canLayAll0]
theorem ly_nil : PyData.canLayAll0 [] = true := by rw [PyData.canLayAll0]
theorem ly_tup {l : List PyData} : (PyData.tuple l).canLay0 = PyData.canLayAll0 l := by rw [PyData.canLay0]
theorem ly_str {x : Str} : (PyData.str x).canLay0 = PyData.strOk x := by rw [PyData.canLay0]
theorem lay_toD (k : Kd) : (toD k).canLay0 = true := by
  induction k with
  | arr k ih => rw [toD_eq, ly_tup, ly_cons, ly_str, lay_tag]; simp [rest, ly_cons, ly_nil, ih]
  | fn0 e r ih => rw [toD_eq, ly_tup, ly_cons, ly_str, lay_tag]; simp [rest, ly_cons, ly_nil, ly_tup, ih, strOkS]
  | fn1 e p r ihp ih => rw [toD_eq, ly_tup, ly_cons, ly_str, lay_tag]; simp [rest, ly_cons, ly_nil, ly_tup, ih, ihp, strOkS]
  | fn2 e p q r ihp ihq ih => rw [toD_eq, ly_tup, ly_cons, ly_str, lay_tag]; simp [rest, ly_cons, ly_nil, ly_tup, ih, ihp, ihq, strOkS]
  | named => decide +kernel
  | _ => rw [toD_eq, ly_tup, ly_cons, ly_str, lay_tag]; simp [rest, ly_nil]
theorem dp_cons {d : PyData} {l : List PyData} : PyData.depthAll (d :: l) = max d.depth (PyData.depthAll l) := by rw [PyData.depthAll]
theorem dp_nil : PyData.depthAll [] = 0 := by rw [PyData.depthAll]
theorem dp_tup {l : List PyData} : (PyData.tuple l).depth = PyData.depthAll l + 1 := by rw [PyData.depth]
theorem dp_str {x : Str} : (PyData.str x).depth = 0 := by rw [PyData.depth]
theorem dp_sds : ∀ l : List Str, PyData.depthAll (sds l) = 0
  | [] => by show PyData.depthAll [] = 0; exact dp_nil
  | x :: l => by show PyData.depthAll (.str x :: sds l) = 0; rw [dp_cons, dp_str, dp_sds l]; rfl
theorem dep_toD (k : Kd) : (toD k).depth ≤ 2 * rank k + 3 := by
  induction k with
  | arr k ih => rw [toD_eq, dp_tup, dp_cons, dp_str]; simp only [rest, dp_cons, dp_nil, rank]; omega
  | fn0 e r ih => rw [toD_eq, dp_tup, dp_cons, dp_str]; simp only [rest, dp_cons, dp_nil, dp_tup, dp_sds, rank]; omega
  | fn1 e p r ihp ih => rw [toD_eq, dp_tup, dp_cons, dp_str]; simp only [rest, dp_cons, dp_nil, dp_tup, dp_sds, rank]; omega
  | fn2 e p q r ihp ihq ih => rw [toD_eq, dp_tup, dp_cons, dp_str]; simp only [rest, dp_cons, dp_nil, dp_tup, dp_sds, rank]; omega
  | _ => rw [toD_eq, dp_tup, dp_cons, dp_str]; simp only [rest, dp_cons, dp_str, dp_nil, rank]; omega
section
variable {K : PySem.W.Frag} {H : Hp} {v : V} {k : Kd}
theorem kd_any (h : Dp K H v (toD k)) : ∃ a xr, v = .ref a ∧ SqT K H a (.str (tag k) :: xr) ∧ DpAll K H xr (rest k) := by
  rw [toD_eq] at h
  cases h with
  | tup hs hd =>
    cases hd with
    | cons h0 hd => cases h0; exact ⟨_, _, rfl, hs, hd⟩
theorem kd_fn (h : Dp K H v (toD k)) (f : isFn k = true) : ∃ a pa xp r ea, v = .ref a ∧ SqT K H a [.str "fun", .ref pa, r, .ref ea] ∧ SqT K H pa xp ∧ DpAll K H xp ((ps k).map toD) ∧ Dp K H r (toD (res k)) ∧ SqT K H ea ((effL (ef k)).map V.str) := by
  obtain ⟨a, xr, rfl, hs, hd⟩ := kd_any h
  rw [(tag_fn k).mpr f] at hs
  rw [rest_fn f] at hd
  cases hd with
  | cons h1 hd =>
    cases hd with
    | cons h2 hd =>
      cases hd with
      | cons h3 hd =>
        cases hd
        cases h1 with
        | tup p1 p2 =>
          cases h3 with
          | tup e1 e2 =>
            refine ⟨a, _, _, _, _, rfl, hs, p1, p2, h2, ?_⟩
            have : ∀ {l : List Str} {xs : List V}, DpAll K H xs (sds l) → xs = l.map V.str := by
              intro l
              induction l with
              | nil => intro xs h; cases h; rfl
              | cons x l ih => intro xs h; cases h with | cons a b => cases a; rw [ih b]; rfl
            rw [← this e2]; exact e1
end
def spFits (K : PySem.W.Frag) (n : Nat) : Sp := fun vs H Q _ => ∃ (v1 v2 : V) (a b : Kd), vs = [v1, v2] ∧ n ≤ 20 ∧ rank a < n ∧ rank b < n ∧ Dp K H v1 (toD a) ∧ Dp K H v2 (toD b) ∧ ∀ H', Same H H' → Q (.bl (fitsN n a b)) H'
theorem eq_kd {a b : Kd} : PyData.eqv (toD a) (toD b) = decide (a = b) := eqv_toD a b
theorem min_dep {n : Nat} {a b : Kd} (hn : n ≤ 20) (h : rank a < n) : min (toD a).depth (toD b).depth ≤ 64 := by
  have := dep_toD a
  omega
theorem ctag (k : Kd) : decide (tag k = Str.ofString "fun") = isFn k := by
  rw [Bool.eq_iff_iff, decide_eq_true_eq]; exact tag_fn k
theorem fits_t {n : Nat} {a b : Kd} (h : a = .never ∨ a = b) : fitsN (n + 1) a b = true := by
  rcases h with h | h
  · subst h; exact fits_never n b
  · subst h; exact fits_self n a
theorem fits_g {n : Nat} {a b : Kd} (h1 : ¬ a = .never) (h2 : ¬ a = b) : fitsN (n + 1) a b = (isFn a && isFn b && decide ((ps a).length = (ps b).length) && ((ps a).zip (ps b)).all (fun p => fitsN n p.2 p.1) && fitsN n (res a) (res b) && sub (ef a) (ef b)) := by
  rw [fitsN, decide_eq_false h1, decide_eq_false h2]; rfl
theorem ps_le (k : Kd) : (ps k).length ≤ 2 := by cases k <;> simp [ps]
theorem eff_le : ∀ e : Ef, (effL e).length ≤ 4 := by
  rintro ⟨a, b, c, d⟩
  cases a <;> cases b <;> cases c <;> cases d <;> decide +kernel
theorem zip_ix {α β : Type} {l : List α} {m : List β} (h : l.length = m.length) (p : α × β → Bool) (f : Nat → Bool) (hf : ∀ (i : Nat) (x : α) (y : β), l[i]? = some x → m[i]? = some y → f i = p (x, y)) : (List.range l.length).all f = (l.zip m).all p := by
  rw [Bool.eq_iff_iff, List.all_eq_true, List.all_eq_true]
  refine ⟨fun g x hx => ?_, fun g i hi => ?_⟩
  · obtain ⟨i, hi⟩ := List.getElem?_of_mem hx
    obtain ⟨h1, h2⟩ := List.getElem?_zip_eq_some.mp hi
    rw [← hf i x.1 x.2 h1 h2]
    exact g i (List.mem_range.mpr (List.getElem?_eq_some_iff.mp h1).1)
  · have hi := List.mem_range.mp hi
    have h1 : l[i]? = some l[i] := List.getElem?_eq_getElem hi
    have h2 : m[i]? = some m[i] := List.getElem?_eq_getElem (h ▸ hi)
    rw [hf i _ _ h1 h2]
    exact g _ (List.mem_of_getElem? (List.getElem?_zip_eq_some.mpr ⟨h1, h2⟩))
section
variable {P : Program} {w : World} {K : PySem.W.Frag} {mg : Str → Option Value} {base : Heap} (T : Txt K mg)
include T
theorem never_at (H : Hp) : Dp K H (.ref (He.ga K "NEVER")) (toD .never) := .tup (He.tupB_ok T.tup_NEVER H) (.cons (.str _) .nil)
theorem fits_step (n : Nat) (G_fits : FnOk P w K mg base CX0 (n + 1) (He.ga K "fits") T.d_fits ["one", "two"] (spFits K n)) :
    FnOk P w K mg base CX0 (n + 2) (He.ga K "fits") T.d_fits ["one", "two"] (spFits K (n + 1)) := by
  have hN := never_at T
  refine T.F_fits.ok sc_fits (fun vs H Q E h => ?_) (fun cdv A outer s H vs Q E hr h => ?_)
  · obtain ⟨v1, v2, a, b, rfl, _⟩ := h; rfl
  · obtain ⟨v1, v2, a, b, rfl, hn, ra, rb, d1, d2, q⟩ := h
    refine ⟨_, PSs.nox (pss_cons (ps_if (PW.pt (pw_or (pt_cmpR (r := rEqM K) (op_eqM hr.units) (pv 0) (pe_gt rfl T.g_NEVER) (nomark _)) (pw_or1 (pt_cmpR (r := rEqM K) (op_eqM hr.units) (pv 0) (pv 1) (nomark _)))))
    (pss_one (ps_ret pe_bl))
    pss_nil)
    (pss_cons (ps_if (PW.pt (pw_or (pt_cmpR op_ne (pe_ix (r := rIxT K) ix_tup (pv 0) pe_int (fun _ _ => rfl)) pe_str (nomark _)) (pw_or (pt_cmpR op_ne (pe_ix (r := rIxT K) ix_tup (pv 1) pe_int (fun _ _ => rfl)) pe_str (nomark _)) (pw_or1 (pt_cmpR op_ne (pe_callB (r := rLenS K) call_len_seq (by rfl) T.len (by decide +kernel) (pa_cons (pe_ix (r := rIxT K) ix_tup (pv 0) pe_int (fun _ _ => rfl)) pa_nil)) (pe_callB (r := rLenS K) call_len_seq (by rfl) T.len (by decide +kernel) (pa_cons (pe_ix (r := rIxT K) ix_tup (pv 1) pe_int (fun _ _ => rfl)) pa_nil)) (nomark _))))))
    (pss_one (ps_ret pe_bl))
    pss_nil)
    (pss_cons (ps_if (PW.pt (pw_or (pt_not (pt_val (pe_callB (r := rAll K) (cr_all rfl) (by rfl) T.all (by decide +kernel) (pa_cons (pe_lc (own := [("a", 3), ("b", 4)]) (g := gTup _ 2 (gCons (gName 3) (gCons (gName 4) gNil))) (tt := tYes) (by rfl) sc_fits.nd (RZ.pi_zipA (by rfl) T.zip (pa_cons (pe_ix (r := rIxT K) ix_tup (pv 0) pe_int (fun _ _ => rfl)) (pa_cons (pe_ix (r := rIxT K) ix_tup (pv 1) pe_int (fun _ _ => rfl)) pa_nil))) (blkOk_by (own := [("a", 3), ("b", 4)]) (N := ["one", "two", "effect", "a", "b"]) (sc := defScope s_fits) (by decide +kernel)) (fun _ _ _ _ _ => (pg_tup rfl (pgs_cons (pg_name (i := 3) sc_fits.nd rfl (.inl rfl)) (pgs_cons (pg_name (i := 4) sc_fits.nd rfl (.inl rfl)) pgs_nil)))) (fun _ _ _ _ _ => pts_nil) (fun _ _ _ _ _ => (pe_call G_fits (hr.mono (by omega)) (by rfl) T.g_fits T.F_fits.kp T.b_fits .nil pass0 (pa_cons (pv 4) (pa_cons (pv 3) pa_nil))))) pa_nil)))) (pw_or1 (pt_not (pt_val (pe_call G_fits (hr.mono (by omega)) (by rfl) T.g_fits T.F_fits.kp T.b_fits .nil pass0 (pa_cons (pe_ix (r := rIxT K) ix_tup (pv 0) pe_int (fun _ _ => rfl)) (pa_cons (pe_ix (r := rIxT K) ix_tup (pv 1) pe_int (fun _ _ => rfl)) pa_nil))))))))
    (pss_one (ps_ret pe_bl))
    pss_nil)
    (pss_one (ps_ret (pe_callB (r := rAll K) (cr_all rfl) (by rfl) T.all (by decide +kernel) (pa_cons (pe_lc (own := [("effect", 2)]) (g := gName 2) (tt := tYes) (by rfl) sc_fits.nd (pi_tup (pe_ix (r := rIxT K) ix_tup (pv 0) pe_int (fun _ _ => rfl))) (blkOk_by (own := [("effect", 2)]) (N := ["one", "two", "effect", "a", "b"]) (sc := defScope s_fits) (by decide +kernel)) (fun _ _ _ _ _ => (pg_name (i := 2) sc_fits.nd rfl (.inl rfl))) (fun _ _ _ _ _ => pts_nil) (fun _ _ _ _ _ => (pe_cmpR (r := rIn K false) op_in_seq (pv 2) (pe_ix (r := rIxT K) ix_tup (pv 1) pe_int (fun _ _ => rfl)) (by rfl)))) pa_nil))))))), ?_⟩
    have qq : ∀ {b1 : Bool} {H' : Hp}, Same H H' → fitsN (n + 1) a b = b1 → Q (.bl b1) H' := fun {b1 H'} s e => by have := q H' s; rw [e] at this; exact this
    refine ⟨_, rfl, toD a, toD .never, d1, hN H, lay_toD a, lay_toD _, min_dep hn ra, _, rfl, ?_⟩
    rw [eq_kd]
    by_cases h1 : a = .never
    · rw [decide_eq_true h1]
      exact iteT (qq (Same.refl H) (fits_t (.inl h1)))
    rw [decide_eq_false h1]
    refine iteF ⟨_, rfl, _, rfl, toD a, toD b, d1, d2, lay_toD a, lay_toD b, min_dep hn ra, _, rfl, ?_⟩
    rw [eq_kd]
    by_cases h2 : a = b
    · rw [decide_eq_true h2]
      exact iteT (qq (Same.refl H) (fits_t (.inr h2)))
    rw [decide_eq_false h2]
    have eg := fits_g (n := n) h1 h2
    obtain ⟨a1, xr1, rfl, s1, _⟩ := kd_any d1
    obtain ⟨a2, xr2, rfl, s2, _⟩ := kd_any d2
    refine iteF ⟨_, rfl, a1, _, _, _, rfl, rfl, s1, at_v (n := 0) rfl rfl, rfl, _, rfl, ?_⟩
    rw [dS, ctag]
    by_cases f1 : isFn a = true
    rotate_left
    · rw [eq_false_of_ne_true f1] at eg ⊢
      exact iteT (qq (Same.refl H) (by rw [eg]; rfl))
    rw [f1]
    refine iteF ⟨_, rfl, a2, _, _, _, rfl, rfl, s2, at_v (n := 0) rfl rfl, rfl, _, rfl, ?_⟩
    rw [dS, ctag]
    by_cases f2 : isFn b = true
    rotate_left
    · rw [eq_false_of_ne_true f2, Bool.and_false] at eg
      rw [eq_false_of_ne_true f2]
      exact iteT (qq (Same.refl H) (by rw [eg]; rfl))
    rw [f2]
    obtain ⟨_, pa1, xp1, r1, ea1, e, t1, p1, dp1, dr1, de1⟩ := kd_fn d1 f1
    cases e
    obtain ⟨_, pa2, xp2, r2, ea2, e, t2, p2, dp2, dr2, de2⟩ := kd_fn d2 f2
    cases e
    have l1 := dp1.len
    have l2 := dp2.len
    rw [List.length_map] at l1 l2
    refine iteF ⟨_, rfl, a1, _, _, _, rfl, rfl, t1, at_v (n := 1) rfl rfl, pa1, _, rfl, .inr p1, _, rfl, a2, _, _, _, rfl, rfl, t2, at_v (n := 1) rfl rfl, pa2, _, rfl, .inr p2, rfl, _, rfl, ?_⟩
    rw [dI, l1, l2]
    have ecl : decide ((((ps a).length : Nat) : Int) = (((ps b).length : Nat) : Int)) = decide ((ps a).length = (ps b).length) := decide_eq_decide.mpr (by omega)
    rw [ecl]
    by_cases h3 : (ps a).length = (ps b).length
    rotate_left
    · rw [decide_eq_false h3, Bool.and_false] at eg
      rw [decide_eq_false h3]
      exact iteT (qq (Same.refl H) (by rw [eg]; rfl))
    rw [decide_eq_true h3, f1, f2] at eg
    rw [decide_eq_true h3]
    refine iteF ⟨_, rfl, a1, _, _, _, rfl, rfl, t1, at_v (n := 1) rfl rfl, _, rfl, a2, _, _, _, rfl, rfl, t2, at_v (n := 1) rfl rfl, pa1, pa2, xp1, xp2, rfl, .inr ⟨p1, p2, fun D hD => ?_⟩⟩
    refine lc_it (walk_zipT (K := K) (a := pa1) (b := pa2) (xs := xp1) (ys := xp2) (n := (ps a).length) (by omega)) (LcS H D fun i => [V.bl (fitsN n ((ps b).getD i .never) ((ps a).getD i .never))]) (LcS.zero hD fun _ => Nat.le_refl 1) (fun i H3 _ hP => ⟨hP.1.sqt p1, hP.1.sqt p2⟩) (fun i x H3 H4 hi hP hy => ?_) (fun H3 hP => ?_)
    · obtain ⟨t0, x, y, rfl, ht0, rfl, hx, hy⟩ := hy
      obtain ⟨e1, g1, k1⟩ := dp1.at hx
      obtain ⟨e2, g2, k2⟩ := dp2.at hy
      rw [List.getElem?_map] at g1 g2
      obtain ⟨ka, ga, rfl⟩ := Option.map_eq_some_iff.mp g1
      obtain ⟨kb, gb, rfl⟩ := Option.map_eq_some_iff.mp g2
      have ea : (ps a).getD i .never = ka := by rw [List.getD_eq_getElem?_getD, ga]; rfl
      have eb : (ps b).getD i .never = kb := by rw [List.getD_eq_getElem?_getD, gb]; rfl
      have s4 := Same.one (o := .tup [x, y]) ht0
      have ma := ps_rank (List.mem_of_getElem? ga)
      have mb := ps_rank (List.mem_of_getElem? gb)
      refine ⟨t0, _, rfl, sqt_new upd_same, rfl, ?_⟩
      refine ⟨_, _, rfl, _, _, rfl, rfl, rfl, _, rfl, _, rfl, y, x, kb, ka, rfl, by omega, by omega, by omega, k2.same (hP.1.trans s4), k1.same (hP.1.trans s4), fun H5 s5 => ?_⟩
      exact hP.yes hD (s4.trans s5) (by rw [ea, eb]) (by rw [sizeLine_eq]; have := (ps_le a); omega)
    · have e := hP.2.1
      rw [bls] at e
      refine ⟨D, _, rfl, sql_new e, _, rfl, ?_⟩
      rw [all_id, zip_ix h3 (fun p => fitsN n p.2 p.1) _ fun i x y hx hy => by rw [List.getD_eq_getElem?_getD, List.getD_eq_getElem?_getD, hx, hy]; rfl]
      by_cases hA : (((ps a).zip (ps b)).all fun p => fitsN n p.2 p.1) = true
      rotate_left
      · rw [eq_false_of_ne_true hA] at eg ⊢
        exact iteT (qq hP.1 (by rw [eg]; rfl))
      rw [hA] at eg ⊢
      have ra' := res_rank f1
      have rb' := res_rank f2
      refine iteF ⟨_, rfl, a1, _, _, _, rfl, rfl, hP.1.sqt t1, at_v (n := 2) rfl rfl, _, rfl, a2, _, _, _, rfl, rfl, hP.1.sqt t2, at_v (n := 2) rfl rfl, r1, r2, res a, res b, rfl, by omega, by omega, by omega, dr1.same hP.1, dr2.same hP.1, fun H4 s4 => ⟨_, rfl, ?_⟩⟩
      have s5 := hP.1.trans s4
      by_cases hB : fitsN n (res a) (res b) = true
      rotate_left
      · rw [eq_false_of_ne_true hB] at eg ⊢
        exact iteT (qq s5 (by rw [eg]; rfl))
      rw [hB] at eg ⊢
      refine iteF ⟨_, rfl, a1, _, _, _, rfl, rfl, s5.sqt t1, at_v (n := 3) rfl rfl, ea1, rfl, ⟨_, s5.sqt de1⟩, fun D2 hD2 => ?_⟩
      refine lc_tup (xs := (effL (ef a)).map V.str) (LcS H4 D2 fun i => [V.bl (inS ((effL (ef a)).getD i "") (effL (ef b)))]) (LcS.zero hD2 fun _ => Nat.le_refl 1) (fun i H3 _ hP => hP.1.sqt (s5.sqt de1)) (fun i x H6 hi hP6 => ?_) (fun H6 hP6 => ?_)
      · have hil : i < (effL (ef a)).length := by have := (List.getElem?_eq_some_iff.mp hi).1; rwa [List.length_map] at this
        rw [sd_at hil] at hi
        cases hi
        have s6 := s5.trans hP6.1
        refine ⟨rfl, _, rfl, _, rfl, a2, _, _, _, rfl, rfl, s6.sqt t2, at_v (n := 3) rfl rfl, ea2, (effL (ef b)).map V.str, rfl, .inr (s6.sqt de2), rfl, flat_S _, ?_⟩
        exact hP6.yes hD2 (Same.refl _) (by show [V.bl (inS _ _)] = [V.bl (inV _ _)]; rw [inV_S]) (by have := eff_le (ef a); rw [sizeLine_eq]; omega)
      · have e6 := hP6.2.1
        rw [bls] at e6
        refine ⟨D2, _, rfl, sql_new e6, ?_⟩
        rw [all_id, List.length_map, all_ix (fun x => inS x (effL (ef b))) (effL (ef a)) ""]
        exact qq (s5.trans hP6.1) (by rw [eg]; rfl)
theorem ok_fits : ∀ n, FnOk P w K mg base CX0 (n + 1) (He.ga K "fits") T.d_fits ["one", "two"] (spFits K n)
  | 0 => by
    refine T.F_fits.ok sc_fits (fun vs H Q E h => ?_) (fun cdv A outer s H vs Q E hr h => ?_)
    · obtain ⟨v1, v2, a, b, rfl, _⟩ := h; rfl
    · obtain ⟨v1, v2, a, b, _, _, hm, _⟩ := h; exact absurd hm (by omega)
  | n + 1 => fits_step T n (ok_fits n)
end
end K01

set_option Elab.async false
set_option linter.all false
set_option maxRecDepth 100000
set_option maxHeartbeats 4000000
namespace K01
open PySem PySem.Spec PyProof.Rows L2
section
variable {P : Program} {w : World} {K : PySem.W.Frag} {mg : Str → Option Value} {base : Heap} (T : Txt K mg)
include T
theorem lfits_step (n : Nat) (G__law_fits : FnOk P w K mg base CX0 (n + 1) (He.ga K "_law_fits") T.d__law_fits ["one", "two"] (spFits K n)) :
    FnOk P w K mg base CX0 (n + 2) (He.ga K "_law_fits") T.d__law_fits ["one", "two"] (spFits K (n + 1)) := by
  refine T.F__law_fits.ok sc_law_fits (fun vs H Q E h => ?_) (fun cdv A outer s H vs Q E hr h => ?_)
  · obtain ⟨v1, v2, a, b, rfl, _⟩ := h; rfl
  · obtain ⟨v1, v2, a, b, rfl, hn, ra, rb, d1, d2, q⟩ := h
    refine ⟨_, PSs.nox (pss_cons (ps_if (PW.pt (pw_or (pt_cmpR (r := rEqM K) (op_eqM hr.units) (pv 0) (pe_tup (pa_cons pe_str pa_nil)) (nomark _)) (pw_or1 (pt_cmpR (r := rEqM K) (op_eqM hr.units) (pv 0) (pv 1) (nomark _)))))
    (pss_one (ps_ret pe_bl))
    pss_nil)
    (pss_cons (ps_if (PW.pt (pw_or (pt_cmpR op_ne (pe_ix (r := rIxT K) ix_tup (pv 0) pe_int (fun _ _ => rfl)) pe_str (nomark _)) (pw_or (pt_cmpR op_ne (pe_ix (r := rIxT K) ix_tup (pv 1) pe_int (fun _ _ => rfl)) pe_str (nomark _)) (pw_or1 (pt_cmpR op_ne (pe_callB (r := rLenS K) call_len_seq (by rfl) T.len (by decide +kernel) (pa_cons (pe_ix (r := rIxT K) ix_tup (pv 0) pe_int (fun _ _ => rfl)) pa_nil)) (pe_callB (r := rLenS K) call_len_seq (by rfl) T.len (by decide +kernel) (pa_cons (pe_ix (r := rIxT K) ix_tup (pv 1) pe_int (fun _ _ => rfl)) pa_nil)) (nomark _))))))
    (pss_one (ps_ret pe_bl))
    pss_nil)
    (pss_cons (ps_if (pt_cmpR op_gt (pe_callB (r := rLenS K) call_len_seq (by rfl) T.len (by decide +kernel) (pa_cons (pe_lc (own := [("k", 2)]) (g := gName 2) (by rfl) sc_law_fits.nd (pi_range1 (by rfl) T.range (pa_cons (pe_callB (r := rLenS K) call_len_seq (by rfl) T.len (by decide +kernel) (pa_cons (pe_ix (r := rIxT K) ix_tup (pv 0) pe_int (fun _ _ => rfl)) pa_nil)) pa_nil)) (blkOk_by (own := [("k", 2)]) (N := ["one", "two", "k", "effect"]) (sc := defScope s_law_fits) (by decide +kernel)) (fun _ _ _ _ _ => (pg_name (i := 2) sc_law_fits.nd rfl (.inl rfl))) (fun _ _ _ _ _ => pts_one (pt_not (pt_val (pe_call G__law_fits (hr.mono (by omega)) (by rfl) T.g__law_fits T.F__law_fits.kp T.b__law_fits .nil pass0 (pa_cons (pe_ix (r := rIxT K) ix_tup (pe_ix (r := rIxT K) ix_tup (pv 1) pe_int (fun _ _ => rfl)) (pv 2) (fun _ _ => rfl)) (pa_cons (pe_ix (r := rIxT K) ix_tup (pe_ix (r := rIxT K) ix_tup (pv 0) pe_int (fun _ _ => rfl)) (pv 2) (fun _ _ => rfl)) pa_nil)))))) (fun _ _ _ _ _ => (pv 2))) pa_nil)) pe_int (nomark _))
    (pss_one (ps_ret pe_bl))
    pss_nil)
    (pss_one (ps_ret (pe_and (pe_call G__law_fits (hr.mono (by omega)) (by rfl) T.g__law_fits T.F__law_fits.kp T.b__law_fits .nil pass0 (pa_cons (pe_ix (r := rIxT K) ix_tup (pv 0) pe_int (fun _ _ => rfl)) (pa_cons (pe_ix (r := rIxT K) ix_tup (pv 1) pe_int (fun _ _ => rfl)) pa_nil))) (pe_one (pe_cmpR op_eq (pe_callB (r := rLenS K) call_len_seq (by rfl) T.len (by decide +kernel) (pa_cons (pe_lc (own := [("effect", 3)]) (g := gName 3) (by rfl) sc_law_fits.nd (pi_tup (pe_ix (r := rIxT K) ix_tup (pv 0) pe_int (fun _ _ => rfl))) (blkOk_by (own := [("effect", 3)]) (N := ["one", "two", "k", "effect"]) (sc := defScope s_law_fits) (by decide +kernel)) (fun _ _ _ _ _ => (pg_name (i := 3) sc_law_fits.nd rfl (.inl rfl))) (fun _ _ _ _ _ => pts_one (pt_cmpR (r := rIn K true) op_notIn_seq (pv 3) (pe_ix (r := rIxT K) ix_tup (pv 1) pe_int (fun _ _ => rfl)) (by rfl))) (fun _ _ _ _ _ => (pv 3))) pa_nil)) pe_int (nomark _))))))))), ?_⟩
    refine ⟨_, rfl, (by show 1 ≤ sizeLine; decide), fun t0 ht0 => ?_⟩
    have q0 := fun H' (s : Same (upd H t0 (.tup [.str "never"])) H') => q H' ((Same.one ht0).trans s)
    have hN : Dp K (upd H t0 (.tup [.str "never"])) (.ref t0) (toD .never) := .tup (sqt_new upd_same) (.cons (.str _) .nil)
    have d1' := d1.same (Same.one (o := .tup [.str "never"]) ht0)
    have d2' := d2.same (Same.one (o := .tup [.str "never"]) ht0)
    clear d1 d2 q
    revert q0 hN d1' d2'
    generalize upd H t0 (.tup [.str "never"]) = H
    intro q hN d1 d2
    have qq : ∀ {b1 : Bool} {H' : Hp}, Same H H' → fitsN (n + 1) a b = b1 → Q (.bl b1) H' := fun {b1 H'} s e => by have := q H' s; rw [e] at this; exact this
    refine ⟨toD a, toD .never, d1, hN, lay_toD a, lay_toD _, min_dep hn ra, _, rfl, ?_⟩
    rw [eq_kd]
    by_cases h1 : a = .never
    · rw [decide_eq_true h1]
      exact iteT (qq (Same.refl H) (fits_t (.inl h1)))
    rw [decide_eq_false h1]
    refine iteF ⟨_, rfl, _, rfl, toD a, toD b, d1, d2, lay_toD a, lay_toD b, min_dep hn ra, _, rfl, ?_⟩
    rw [eq_kd]
    by_cases h2 : a = b
    · rw [decide_eq_true h2]
      exact iteT (qq (Same.refl H) (fits_t (.inr h2)))
    rw [decide_eq_false h2]
    have eg := fits_g (n := n) h1 h2
    obtain ⟨a1, xr1, rfl, s1, _⟩ := kd_any d1
    obtain ⟨a2, xr2, rfl, s2, _⟩ := kd_any d2
    refine iteF ⟨_, rfl, a1, _, _, _, rfl, rfl, s1, at_v (n := 0) rfl rfl, rfl, _, rfl, ?_⟩
    rw [dS, ctag]
    by_cases f1 : isFn a = true
    rotate_left
    · rw [eq_false_of_ne_true f1] at eg ⊢
      exact iteT (qq (Same.refl H) (by rw [eg]; rfl))
    rw [f1]
    refine iteF ⟨_, rfl, a2, _, _, _, rfl, rfl, s2, at_v (n := 0) rfl rfl, rfl, _, rfl, ?_⟩
    rw [dS, ctag]
    by_cases f2 : isFn b = true
    rotate_left
    · rw [eq_false_of_ne_true f2, Bool.and_false] at eg
      rw [eq_false_of_ne_true f2]
      exact iteT (qq (Same.refl H) (by rw [eg]; rfl))
    rw [f2]
    obtain ⟨_, pa1, xp1, r1, ea1, e, t1, p1, dp1, dr1, de1⟩ := kd_fn d1 f1
    cases e
    obtain ⟨_, pa2, xp2, r2, ea2, e, t2, p2, dp2, dr2, de2⟩ := kd_fn d2 f2
    cases e
    have l1 := dp1.len
    have l2 := dp2.len
    rw [List.length_map] at l1 l2
    refine iteF ⟨_, rfl, a1, _, _, _, rfl, rfl, t1, at_v (n := 1) rfl rfl, pa1, _, rfl, .inr p1, _, rfl, a2, _, _, _, rfl, rfl, t2, at_v (n := 1) rfl rfl, pa2, _, rfl, .inr p2, rfl, _, rfl, ?_⟩
    rw [dI, l1, l2]
    have ecl : decide ((((ps a).length : Nat) : Int) = (((ps b).length : Nat) : Int)) = decide ((ps a).length = (ps b).length) := decide_eq_decide.mpr (by omega)
    rw [ecl]
    by_cases h3 : (ps a).length = (ps b).length
    rotate_left
    · rw [decide_eq_false h3, Bool.and_false] at eg
      rw [decide_eq_false h3]
      exact iteT (qq (Same.refl H) (by rw [eg]; rfl))
    rw [decide_eq_true h3, f1, f2] at eg
    rw [decide_eq_true h3]
    refine iteF ⟨_, rfl, a1, _, _, _, rfl, rfl, t1, at_v (n := 1) rfl rfl, pa1, _, rfl, .inr p1, ((ps a).length : Nat), by rw [l1], by omega, by have := ps_le a; omega, fun D hD => ?_⟩
    refine lc_range (lo := 0) (n := (ps a).length) (LcS H D fun i => if !fitsN n ((ps b).getD i .never) ((ps a).getD i .never) then [V.int (0 + i)] else []) (LcS.zero hD fun _ => by split <;> simp) (fun i H3 hi hP => ?_) (fun H3 hP => ?_)
    · have hi2 : i < (ps b).length := by omega
      have g1 : ((ps a).map toD)[i]? = some (toD ((ps a).getD i .never)) := by rw [List.getElem?_map, List.getD_eq_getElem?_getD, List.getElem?_eq_getElem hi]; rfl
      have g2 : ((ps b).map toD)[i]? = some (toD ((ps b).getD i .never)) := by rw [List.getElem?_map, List.getD_eq_getElem?_getD, List.getElem?_eq_getElem hi2]; rfl
      obtain ⟨x, hx, k1⟩ := dp1.at2 g1
      obtain ⟨y, hy, k2⟩ := dp2.at2 g2
      have ma : rank ((ps a).getD i .never) < rank a := ps_rank (by rw [List.getD_eq_getElem?_getD, List.getElem?_eq_getElem hi]; exact List.getElem_mem hi)
      have mb : rank ((ps b).getD i .never) < rank b := ps_rank (by rw [List.getD_eq_getElem?_getD, List.getElem?_eq_getElem hi2]; exact List.getElem_mem hi2)
      refine ⟨rfl, _, rfl, a2, _, _, _, rfl, rfl, hP.1.sqt t2, at_v (n := 1) rfl rfl, _, rfl, pa2, _, _, y, rfl, rfl, hP.1.sqt p2, at_v hy (by omega), _, rfl, a1, _, _, _, rfl, rfl, hP.1.sqt t1, at_v (n := 1) rfl rfl, _, rfl, pa1, _, _, x, rfl, rfl, hP.1.sqt p1, at_v hx (by omega), ?_⟩
      refine ⟨y, x, _, _, rfl, by omega, by omega, by omega, k2.same hP.1, k1.same hP.1, fun H5 s5 => ⟨_, rfl, ?_⟩⟩
      refine ite2 (fun h => ?_) (fun h => ?_)
      · exact ⟨_, rfl, hP.yes hD s5 (if_pos h) (by rw [sizeLine_eq]; have := (ps_le a); omega)⟩
      · exact hP.no s5 (if_neg h)
    · have e := hP.2.1
      refine ⟨D, _, rfl, .inl (sql_new e), _, _, rfl, rfl, _, rfl, ?_⟩
      have k := flat_nil (fun i => !fitsN n ((ps b).getD i .never) ((ps a).getD i .never)) (fun i => V.int (0 + i)) (ps a).length
      simp only [Bool.not_not] at k
      rw [zip_ix h3 (fun p => fitsN n p.2 p.1) _ fun i x y hx hy => by rw [List.getD_eq_getElem?_getD, List.getD_eq_getElem?_getD, hx, hy]; rfl] at k
      by_cases hA : (((ps a).zip (ps b)).all fun p => fitsN n p.2 p.1) = true
      rotate_left
      · rw [eq_false_of_ne_true hA] at eg
        refine ite2 (fun _ => qq hP.1 (by rw [eg]; rfl)) (fun z => absurd (decide_eq_true ?_) z)
        have : ¬ _ := fun z => hA (k.mp z)
        omega
      refine ite2 (fun z => ?_) (fun _ => ?_)
      · have z := of_decide_eq_true z
        have := k.mpr hA
        omega
      rw [hA] at eg
      have ra' := res_rank f1
      have rb' := res_rank f2
      refine ⟨_, rfl, a1, _, _, _, rfl, rfl, hP.1.sqt t1, at_v (n := 2) rfl rfl, _, rfl, a2, _, _, _, rfl, rfl, hP.1.sqt t2, at_v (n := 2) rfl rfl, r1, r2, res a, res b, rfl, by omega, by omega, by omega, dr1.same hP.1, dr2.same hP.1, fun H4 s4 => ⟨_, rfl, ?_⟩⟩
      have s5 := hP.1.trans s4
      by_cases hB : fitsN n (res a) (res b) = true
      rotate_left
      · rw [eq_false_of_ne_true hB] at eg ⊢
        exact iteF (qq s5 (by rw [eg]; rfl))
      rw [hB] at eg ⊢
      refine iteT ⟨_, rfl, a1, _, _, _, rfl, rfl, s5.sqt t1, at_v (n := 3) rfl rfl, ea1, rfl, ⟨_, s5.sqt de1⟩, fun D2 hD2 => ?_⟩
      refine lc_tup (xs := (effL (ef a)).map V.str) (LcS H4 D2 fun i => if !inS ((effL (ef a)).getD i "") (effL (ef b)) then [V.str ((effL (ef a)).getD i "")] else []) (LcS.zero hD2 fun _ => by split <;> simp) (fun i H3 _ hP => hP.1.sqt (s5.sqt de1)) (fun i x H6 hi hP6 => ?_) (fun H6 hP6 => ?_)
      · have hil : i < (effL (ef a)).length := by have := (List.getElem?_eq_some_iff.mp hi).1; rwa [List.length_map] at this
        rw [sd_at hil] at hi
        cases hi
        have s6 := s5.trans hP6.1
        refine ⟨rfl, _, rfl, _, rfl, a2, _, _, _, rfl, rfl, s6.sqt t2, at_v (n := 3) rfl rfl, ea2, (effL (ef b)).map V.str, rfl, .inr (s6.sqt de2), rfl, flat_S _, _, rfl, ?_⟩
        rw [show ∀ z : Str, (if true = true then !inV (V.str z) ((effL (ef b)).map V.str) else inV (V.str z) ((effL (ef b)).map V.str)) = !inS z (effL (ef b)) from fun z => congrArg (!·) (inV_S z _)]
        have hlt : i < sizeLine := by have := eff_le (ef a); rw [sizeLine_eq]; omega
        refine ite2 (fun h => ?_) (fun h => ?_)
        · exact ⟨_, rfl, hP6.yes hD2 (Same.refl _) (if_pos h) hlt⟩
        · exact hP6.no (Same.refl _) (if_neg h)
      · have e6 := hP6.2.1
        refine ⟨D2, _, rfl, .inl (sql_new e6), rfl, ?_⟩
        rw [dI]
        have k6 := flat_nil (fun i => !inS ((effL (ef a)).getD i "") (effL (ef b))) (fun i => V.str ((effL (ef a)).getD i "")) (effL (ef a)).length
        simp only [Bool.not_not] at k6
        rw [all_ix (fun x => inS x (effL (ef b))) (effL (ef a)) ""] at k6
        refine qq (s5.trans hP6.1) ?_
        rw [eg, Bool.eq_iff_iff, decide_eq_true_eq, List.length_map, Int.natCast_eq_zero, k6]
        rfl
theorem ok_lfits : ∀ n, FnOk P w K mg base CX0 (n + 1) (He.ga K "_law_fits") T.d__law_fits ["one", "two"] (spFits K n)
  | 0 => by
    refine T.F__law_fits.ok sc_law_fits (fun vs H Q E h => ?_) (fun cdv A outer s H vs Q E hr h => ?_)
    · obtain ⟨v1, v2, a, b, rfl, _⟩ := h; rfl
    · obtain ⟨v1, v2, a, b, _, _, hm, _⟩ := h; exact absurd hm (by omega)
  | n + 1 => lfits_step T n (ok_lfits n)
end
end K01

set_option Elab.async false
set_option linter.all false
set_option maxRecDepth 100000
set_option maxHeartbeats 4000000
namespace K01
open PySem PySem.Spec PyProof.Rows L2
def rIxA (K : PySem.W.Frag) : R2 := fun x y H Q => ∃ p xs i v, x = .ref p ∧ y = .int i ∧ (SqL K H p xs ∨ SqT K H p xs) ∧ atI xs i = some v ∧ Q v H
theorem ix_any {X : Cx} : IxR X (rIxA X.K) := by
  intro value slice pins s σ H x y v u Q I rx ry h hs
  obtain ⟨p, xs, i, z, e1, e2, hq, he, q⟩ := h
  rcases hq with hq | hq
  · exact ix_list value slice pins s σ H x y v u Q I rx ry ⟨p, xs, i, z, e1, e2, hq, he, q⟩ hs
  · exact ix_tup value slice pins s σ H x y v u Q I rx ry ⟨p, xs, i, z, e1, e2, hq, he, q⟩ hs
mutual
theorem eqv_refl : ∀ (d : PyData), d.canLay0 = true → PyData.eqv d d = true
  | .none, _ => by rw [PyData.eqv]
  | .bool b, _ => by rw [PyData.eqv]; simp
  | .int i, _ => by rw [PyData.eqv]; simp
  | .str x, _ => by rw [PyData.eqv]; simp
  | .list ds, h => by rw [PyData.eqv]; exact eqvs_refl ds (by rwa [PyData.canLay0] at h)
  | .tuple ds, h => by rw [PyData.eqv]; exact eqvs_refl ds (by rwa [PyData.canLay0] at h)
  | .dict _, h => by rw [PyData.canLay0] at h; cases h
theorem eqvs_refl : ∀ (ds : List PyData), PyData.canLayAll0 ds = true → PyData.eqvAll ds ds = true
  | [], _ => by rw [PyData.eqvAll]
  | d :: ds, h => by
    rw [PyData.canLayAll0, Bool.and_eq_true] at h
    rw [PyData.eqvAll, eqv_refl d h.1, eqvs_refl ds h.2]; rfl
end
theorem depth_in : ∀ {ds : List PyData} {d : PyData}, d ∈ ds → d.depth ≤ PyData.depthAll ds
  | e :: ds, d, h => by
    rw [dp_cons]
    rcases List.mem_cons.mp h with h | h
    · subst h; omega
    · have := depth_in h; omega
def spSame (K : PySem.W.Frag) (n : Nat) : Sp := fun vs H Q _ => ∃ (v1 v2 : V) (d : PyData), vs = [v1, v2] ∧ n ≤ 60 ∧ d.depth < n ∧ Sml d ∧ Dp K H v1 d ∧ Dp K H v2 d ∧ ∀ H', Same H H' → Q (.bl true) H'
theorem nat_pos_flat {α : Type} (n : Nat) (c : Nat → List α) (h : ∀ i, i < n → c i = []) : (List.range n).flatMap c = [] := by
  rw [List.flatMap_eq_nil_iff]
  exact fun i hi => h i (List.mem_range.mp hi)
section
variable {P : Program} {w : World} {K : PySem.W.Frag} {mg : Str → Option Value} {base : Heap} (T : Txt K mg)
include T
theorem same_step (n : Nat) (G__law_same : FnOk P w K mg base CX0 (n + 1) (He.ga K "_law_same") T.d__law_same ["actual", "due"] (spSame K n)) :
    FnOk P w K mg base CX0 (n + 2) (He.ga K "_law_same") T.d__law_same ["actual", "due"] (spSame K (n + 1)) := by
  refine T.F__law_same.ok sc_law_same (fun vs H Q E h => ?_) (fun cdv A outer s H vs Q E hr h => ?_)
  · obtain ⟨v1, v2, d, rfl, _⟩ := h; rfl
  · obtain ⟨v1, v2, d, rfl, hn, hdep, hs, d1, d2, q⟩ := h
    refine ⟨_, PSs.nox (pss_cons (ps_if (PW.pt (pw_or (pt_val (pe_callB (r := rIsi K) call_isi (by rfl) T.isinstance (by decide +kernel) (pa_cons (pv 1) (pa_cons (pe_bltn (v := .ty "tuple") rfl T.tuple (by decide +kernel) rfl) pa_nil)))) (pw_or1 (pt_val (pe_callB (r := rIsi K) call_isi (by rfl) T.isinstance (by decide +kernel) (pa_cons (pv 1) (pa_cons (pe_bltn (v := .ty "list") rfl T.list (by decide +kernel) rfl) pa_nil)))))))
    (pss_cons (ps_if (PW.pt (pw_or (pt_cmpR op_ne (pe_callB (r := rIsi K) call_isi (by rfl) T.isinstance (by decide +kernel) (pa_cons (pv 1) (pa_cons (pe_bltn (v := .ty "tuple") rfl T.tuple (by decide +kernel) rfl) pa_nil))) (pe_callB (r := rIsi K) call_isi (by rfl) T.isinstance (by decide +kernel) (pa_cons (pv 0) (pa_cons (pe_bltn (v := .ty "tuple") rfl T.tuple (by decide +kernel) rfl) pa_nil))) (nomark _)) (pw_or (pt_cmpR op_ne (pe_callB (r := rIsi K) call_isi (by rfl) T.isinstance (by decide +kernel) (pa_cons (pv 1) (pa_cons (pe_bltn (v := .ty "list") rfl T.list (by decide +kernel) rfl) pa_nil))) (pe_callB (r := rIsi K) call_isi (by rfl) T.isinstance (by decide +kernel) (pa_cons (pv 0) (pa_cons (pe_bltn (v := .ty "list") rfl T.list (by decide +kernel) rfl) pa_nil))) (nomark _)) (pw_or1 (pt_cmpR op_ne (pe_callB (r := rLenS K) call_len_seq (by rfl) T.len (by decide +kernel) (pa_cons (pv 0) pa_nil)) (pe_callB (r := rLenS K) call_len_seq (by rfl) T.len (by decide +kernel) (pa_cons (pv 1) pa_nil)) (nomark _))))))
    (pss_one (ps_ret pe_bl))
    pss_nil)
    (pss_one (ps_ret (pe_cmpR op_eq (pe_callB (r := rLenS K) call_len_seq (by rfl) T.len (by decide +kernel) (pa_cons (pe_lc (own := [("k", 2)]) (g := gName 2) (by rfl) sc_law_same.nd (pi_range1 (by rfl) T.range (pa_cons (pe_callB (r := rLenS K) call_len_seq (by rfl) T.len (by decide +kernel) (pa_cons (pv 1) pa_nil)) pa_nil)) (blkOk_by (own := [("k", 2)]) (N := ["actual", "due", "k"]) (sc := defScope s_law_same) (by decide +kernel)) (fun _ _ _ _ _ => (pg_name (i := 2) sc_law_same.nd rfl (.inl rfl))) (fun _ _ _ _ _ => pts_one (pt_not (pt_val (pe_call G__law_same (hr.mono (by omega)) (by rfl) T.g__law_same T.F__law_same.kp T.b__law_same .nil pass0 (pa_cons (pe_ix (r := rIxA K) ix_any (pv 0) (pv 2) (fun _ _ => rfl)) (pa_cons (pe_ix (r := rIxA K) ix_any (pv 1) (pv 2) (fun _ _ => rfl)) pa_nil)))))) (fun _ _ _ _ _ => (pv 2))) pa_nil)) pe_int (nomark _)))))
    pss_nil)
    (pss_cons (ps_if (pt_cmpR op_isN (pv 1) pe_non (nomark _))
    (pss_one (ps_ret (pe_cmpR op_isN (pv 0) pe_non (nomark _))))
    pss_nil)
    (pss_cons (ps_if (PW.pt (pw_or (pt_val (pe_callB (r := rIsi K) call_isi (by rfl) T.isinstance (by decide +kernel) (pa_cons (pv 1) (pa_cons (pe_bltn (v := .ty "bool") rfl T.bool (by decide +kernel) rfl) pa_nil)))) (pw_or1 (pt_val (pe_callB (r := rIsi K) call_isi (by rfl) T.isinstance (by decide +kernel) (pa_cons (pv 0) (pa_cons (pe_bltn (v := .ty "bool") rfl T.bool (by decide +kernel) rfl) pa_nil)))))))
    (pss_one (ps_ret (pe_and (pe_callB (r := rIsi K) call_isi (by rfl) T.isinstance (by decide +kernel) (pa_cons (pv 1) (pa_cons (pe_bltn (v := .ty "bool") rfl T.bool (by decide +kernel) rfl) pa_nil))) (pe_and (pe_callB (r := rIsi K) call_isi (by rfl) T.isinstance (by decide +kernel) (pa_cons (pv 0) (pa_cons (pe_bltn (v := .ty "bool") rfl T.bool (by decide +kernel) rfl) pa_nil))) (pe_one (pe_cmpR (r := rEqM K) (op_eqM hr.units) (pv 0) (pv 1) (nomark _)))))))
    pss_nil)
    (pss_cons (ps_if (pt_val (pe_callB (r := rIsi K) call_isi (by rfl) T.isinstance (by decide +kernel) (pa_cons (pv 1) (pa_cons (pe_bltn (v := .ty "int") rfl T.int (by decide +kernel) rfl) pa_nil))))
    (pss_one (ps_ret (pe_and (pe_callB (r := rIsi K) call_isi (by rfl) T.isinstance (by decide +kernel) (pa_cons (pv 0) (pa_cons (pe_bltn (v := .ty "int") rfl T.int (by decide +kernel) rfl) pa_nil))) (pe_one (pe_cmpR (r := rEqM K) (op_eqM hr.units) (pv 0) (pv 1) (nomark _))))))
    pss_nil)
    (pss_one (ps_ret (pe_and (pe_callB (r := rIsi K) call_isi (by rfl) T.isinstance (by decide +kernel) (pa_cons (pv 0) (pa_cons (pe_bltn (v := .ty "str") rfl T.str (by decide +kernel) rfl) pa_nil))) (pe_and (pe_callB (r := rIsi K) call_isi (by rfl) T.isinstance (by decide +kernel) (pa_cons (pv 1) (pa_cons (pe_bltn (v := .ty "str") rfl T.str (by decide +kernel) rfl) pa_nil))) (pe_one (pe_cmpR (r := rEqM K) (op_eqM hr.units) (pv 0) (pv 1) (nomark _))))))))))), ?_⟩
    have hl := lay0 d _ d1 hs
    have hmin : min d.depth d.depth ≤ 64 := by omega
    cases d with
    | none =>
      cases d1; cases d2
      exact ⟨_, rfl, _, _, _, _, false, rfl, .ty _, .base .non, ki_tup .none, _, rfl, iteF ⟨_, rfl, _, _, _, _, false, rfl, .ty _, .base .non, ki_lst .none, _, rfl, iteF ⟨_, rfl, rfl, _, rfl, iteT ⟨_, rfl, rfl, q H (Same.refl H)⟩⟩⟩⟩
    | bool b =>
      cases d1; cases d2
      refine ⟨_, rfl, _, _, _, _, false, rfl, .ty _, .base (.bl b), ki_tup (.bool b), _, rfl, iteF ⟨_, rfl, _, _, _, _, false, rfl, .ty _, .base (.bl b), ki_lst (.bool b), _, rfl, iteF ⟨_, rfl, rfl, _, rfl, iteF ⟨_, rfl, _, _, _, _, true, rfl, .ty _, .base (.bl b), ki_bool (.bool b), _, rfl, iteT ?_⟩⟩⟩⟩
      refine ⟨_, rfl, _, _, _, _, true, rfl, .ty _, .base (.bl b), ki_bool (.bool b), _, rfl, iteT ⟨_, rfl, _, _, _, _, true, rfl, .ty _, .base (.bl b), ki_bool (.bool b), _, rfl, iteT ⟨_, rfl, _, rfl, .bool b, .bool b, .bl b, .bl b, hl, hl, hmin, ?_⟩⟩⟩
      rw [eqv_refl _ hl]; exact q H (Same.refl H)
    | int i =>
      cases d1; cases d2
      refine ⟨_, rfl, _, _, _, _, false, rfl, .ty _, .base (.int i), ki_tup (.int i), _, rfl, iteF ⟨_, rfl, _, _, _, _, false, rfl, .ty _, .base (.int i), ki_lst (.int i), _, rfl, iteF ⟨_, rfl, rfl, _, rfl, iteF ⟨_, rfl, _, _, _, _, false, rfl, .ty _, .base (.int i), ki_bool (.int i), _, rfl, iteF ?_⟩⟩⟩⟩
      refine ⟨_, rfl, _, _, _, _, false, rfl, .ty _, .base (.int i), ki_bool (.int i), _, rfl, iteF ⟨_, rfl, _, _, _, _, true, rfl, .ty _, .base (.int i), ki_int (.int i), _, rfl, iteT ?_⟩⟩
      refine ⟨_, rfl, _, _, _, _, true, rfl, .ty _, .base (.int i), ki_int (.int i), _, rfl, iteT ⟨_, rfl, _, rfl, .int i, .int i, .int i, .int i, hl, hl, hmin, ?_⟩⟩
      rw [eqv_refl _ hl]; exact q H (Same.refl H)
    | str z =>
      cases d1; cases d2
      refine ⟨_, rfl, _, _, _, _, false, rfl, .ty _, .base (.str z), ki_tup (.str z), _, rfl, iteF ⟨_, rfl, _, _, _, _, false, rfl, .ty _, .base (.str z), ki_lst (.str z), _, rfl, iteF ⟨_, rfl, rfl, _, rfl, iteF ⟨_, rfl, _, _, _, _, false, rfl, .ty _, .base (.str z), ki_bool (.str z), _, rfl, iteF ?_⟩⟩⟩⟩
      refine ⟨_, rfl, _, _, _, _, false, rfl, .ty _, .base (.str z), ki_bool (.str z), _, rfl, iteF ⟨_, rfl, _, _, _, _, false, rfl, .ty _, .base (.str z), ki_int (.str z), _, rfl, iteF ?_⟩⟩
      refine ⟨_, rfl, _, _, _, _, true, rfl, .ty _, .base (.str z), ki_str (.str z), _, rfl, iteT ⟨_, rfl, _, _, _, _, true, rfl, .ty _, .base (.str z), ki_str (.str z), _, rfl, iteT ⟨_, rfl, _, rfl, .str z, .str z, .str z, .str z, hl, hl, hmin, ?_⟩⟩⟩
      rw [eqv_refl _ hl]; exact q H (Same.refl H)
    | dict k => cases d1
    | tuple ds =>
      cases d1 with
      | tup h1 a1 =>
      cases d2 with
      | tup h2 a2 =>
      have hx1 : Vx K H _ (.tuple ds) := .inl (.tup h1 a1)
      have hx2 : Vx K H _ (.tuple ds) := .inl (.tup h2 a2)
      refine ⟨_, rfl, _, _, _, _, true, rfl, .ty _, tyx hx2, ki_tup (.tuple ds), _, rfl, iteT ?_⟩
      refine ⟨_, rfl, _, _, _, _, true, rfl, .ty _, tyx hx2, ki_tup (.tuple ds), _, rfl, _, _, _, _, true, rfl, .ty _, tyx hx1, ki_tup (.tuple ds), rfl, _, rfl, iteF ?_⟩
      refine ⟨_, rfl, _, _, _, _, false, rfl, .ty _, tyx hx2, ki_lst (.tuple ds), _, rfl, _, _, _, _, false, rfl, .ty _, tyx hx1, ki_lst (.tuple ds), rfl, _, rfl, iteF ?_⟩
      have hy := a1.len
      have hx := a2.len
      have hdd : PyData.depthAll ds < n := by have e : PyData.depth (.tuple ds) = PyData.depthAll ds + 1 := by rw [PyData.depth]
                                              omega
      have hln : ds.length ≤ 1000 := by cases hs; assumption
      refine ⟨_, rfl, _, _, rfl, .inr h1, _, rfl, _, _, rfl, .inr h2, rfl, _, rfl, ?_⟩
      rw [dI, hy, hx, decide_eq_true rfl]
      refine iteF ?_
      refine ⟨_, rfl, _, _, rfl, .inr h2, (ds.length : Nat), by rw [hx], by omega, by omega, fun D hD => ?_⟩
      refine lc_range (lo := 0) (n := ds.length) (LcS H D fun i => []) (LcS.zero hD fun _ => by simp) (fun i H3 hi hP => ?_) (fun H3 hP => ?_)
      · have g : ds[i]? = some ds[i] := List.getElem?_eq_getElem hi
        obtain ⟨x, ex, kx⟩ := a1.at2 g
        obtain ⟨y, ey, ky⟩ := a2.at2 g
        have hm : ds[i] ∈ ds := List.getElem_mem hi
        have hdi := depth_in hm
        refine ⟨rfl, _, rfl, _, rfl, _, _, _, x, rfl, rfl, .inr (hP.1.sqt h1), at_v ex (by omega), _, rfl, _, rfl, _, _, _, y, rfl, rfl, .inr (hP.1.sqt h2), at_v ey (by omega), x, y, ds[i], rfl, by omega, by omega, hs.tupIn _ hm, kx.same hP.1, ky.same hP.1, fun H5 s5 => ⟨_, rfl, iteF ?_⟩⟩
        exact hP.no s5 rfl
      · have e := hP.2.1
        rw [nat_pos_flat _ _ fun _ _ => rfl] at e
        refine ⟨D, _, rfl, .inl (sql_new e), rfl, ?_⟩
        exact q H3 hP.1
    | list ds =>
      cases d1 with
      | lst h1 a1 =>
      cases d2 with
      | lst h2 a2 =>
      have hx1 : Vx K H _ (.list ds) := .inl (.lst h1 a1)
      have hx2 : Vx K H _ (.list ds) := .inl (.lst h2 a2)
      refine ⟨_, rfl, _, _, _, _, false, rfl, .ty _, tyx hx2, ki_tup (.list ds), _, rfl, iteF ⟨_, rfl, _, _, _, _, true, rfl, .ty _, tyx hx2, ki_lst (.list ds), _, rfl, iteT ?_⟩⟩
      refine ⟨_, rfl, _, _, _, _, false, rfl, .ty _, tyx hx2, ki_tup (.list ds), _, rfl, _, _, _, _, false, rfl, .ty _, tyx hx1, ki_tup (.list ds), rfl, _, rfl, iteF ?_⟩
      refine ⟨_, rfl, _, _, _, _, true, rfl, .ty _, tyx hx2, ki_lst (.list ds), _, rfl, _, _, _, _, true, rfl, .ty _, tyx hx1, ki_lst (.list ds), rfl, _, rfl, iteF ?_⟩
      have hy := a1.len
      have hx := a2.len
      have hdd : PyData.depthAll ds < n := by have e : PyData.depth (.list ds) = PyData.depthAll ds + 1 := by rw [PyData.depth]
                                              omega
      have hln : ds.length ≤ 1000 := by cases hs; assumption
      refine ⟨_, rfl, _, _, rfl, .inl h1, _, rfl, _, _, rfl, .inl h2, rfl, _, rfl, ?_⟩
      rw [dI, hy, hx, decide_eq_true rfl]
      refine iteF ?_
      refine ⟨_, rfl, _, _, rfl, .inl h2, (ds.length : Nat), by rw [hx], by omega, by omega, fun D hD => ?_⟩
      refine lc_range (lo := 0) (n := ds.length) (LcS H D fun i => []) (LcS.zero hD fun _ => by simp) (fun i H3 hi hP => ?_) (fun H3 hP => ?_)
      · have g : ds[i]? = some ds[i] := List.getElem?_eq_getElem hi
        obtain ⟨x, ex, kx⟩ := a1.at2 g
        obtain ⟨y, ey, ky⟩ := a2.at2 g
        have hm : ds[i] ∈ ds := List.getElem_mem hi
        have hdi := depth_in hm
        refine ⟨rfl, _, rfl, _, rfl, _, _, _, x, rfl, rfl, .inl (hP.1.seq h1), at_v ex (by omega), _, rfl, _, rfl, _, _, _, y, rfl, rfl, .inl (hP.1.seq h2), at_v ey (by omega), x, y, ds[i], rfl, by omega, by omega, hs.lstIn _ hm, kx.same hP.1, ky.same hP.1, fun H5 s5 => ⟨_, rfl, iteF ?_⟩⟩
        exact hP.no s5 rfl
      · have e := hP.2.1
        rw [nat_pos_flat _ _ fun _ _ => rfl] at e
        refine ⟨D, _, rfl, .inl (sql_new e), rfl, ?_⟩
        exact q H3 hP.1
theorem ok_same : ∀ n, FnOk P w K mg base CX0 (n + 1) (He.ga K "_law_same") T.d__law_same ["actual", "due"] (spSame K n)
  | 0 => by
    refine T.F__law_same.ok sc_law_same (fun vs H Q E h => ?_) (fun cdv A outer s H vs Q E hr h => ?_)
    · obtain ⟨v1, v2, d, rfl, _⟩ := h; rfl
    · obtain ⟨v1, v2, d, _, _, hm, _⟩ := h; exact absurd hm (by omega)
  | n + 1 => same_step T n (ok_same n)
end
/-- the data of what two kinds join to -/
def jd (n : Nat) (a b : Kd) : PyData := if fitsN n a b = true then toD b else if fitsN n b a = true then toD a else .none
def spJoin (K : PySem.W.Frag) (n : Nat) : Sp := fun vs H Q _ => ∃ (v1 v2 : V) (a b : Kd), vs = [v1, v2] ∧ n ≤ 20 ∧ rank a < n ∧ rank b < n ∧ Dp K H v1 (toD a) ∧ Dp K H v2 (toD b) ∧ ∀ H' v, Same H H' → Dp K H' v (jd n a b) → Q v H'
section
variable {P : Program} {w : World} {K : PySem.W.Frag} {mg : Str → Option Value} {base : Heap} (T : Txt K mg)
include T
theorem ok_joined (n : Nat) : FnOk P w K mg base CX0 (n + 2) (He.ga K "joined") T.d_joined ["one", "two"] (spJoin K n) := by
  have G_fits := ok_fits (P := P) (w := w) (base := base) T n
  refine T.F_joined.ok sc_joined (fun vs H Q E h => ?_) (fun cdv A outer s H vs Q E hr h => ?_)
  · obtain ⟨v1, v2, a, b, rfl, _⟩ := h; rfl
  · obtain ⟨v1, v2, a, b, rfl, hn, ra, rb, d1, d2, q⟩ := h
    refine ⟨_, PSs.nox (pss_cons (ps_if (pt_val (pe_call G_fits (hr.mono (by omega)) (by rfl) T.g_fits T.F_fits.kp T.b_fits .nil pass0 (pa_cons (pv 0) (pa_cons (pv 1) pa_nil))))
    (pss_one (ps_ret (pv 1)))
    pss_nil)
    (pss_one (ps_ret (pe_ifExp (pt_val (pe_call G_fits (hr.mono (by omega)) (by rfl) T.g_fits T.F_fits.kp T.b_fits .nil pass0 (pa_cons (pv 1) (pa_cons (pv 0) pa_nil)))) (pv 0) pe_non)))), ?_⟩
    refine ⟨_, rfl, _, rfl, v1, v2, a, b, rfl, hn, ra, rb, d1, d2, fun H1 s1 => ⟨_, rfl, ?_⟩⟩
    by_cases h1 : fitsN n a b = true
    · rw [h1]
      exact iteT ⟨_, rfl, q H1 _ s1 (by unfold jd; rw [if_pos h1]; exact d2.same s1)⟩
    rw [eq_false_of_ne_true h1]
    refine iteF ⟨_, rfl, _, rfl, v2, v1, b, a, rfl, hn, rb, ra, d2.same s1, d1.same s1, fun H2 s2 => ⟨_, rfl, ?_⟩⟩
    by_cases h2 : fitsN n b a = true
    · rw [h2]
      exact iteT ⟨_, rfl, q H2 _ (s1.trans s2) (by unfold jd; rw [if_neg h1, if_pos h2]; exact d1.same (s1.trans s2))⟩
    rw [eq_false_of_ne_true h2]
    exact iteF (q H2 _ (s1.trans s2) (by unfold jd; rw [if_neg h1, if_neg h2]; exact .non))
theorem ok_ljoined (n : Nat) : FnOk P w K mg base CX0 (n + 2) (He.ga K "_law_joined") T.d__law_joined ["one", "two"] (spJoin K n) := by
  have G__law_fits := ok_lfits (P := P) (w := w) (base := base) T n
  refine T.F__law_joined.ok sc_law_joined (fun vs H Q E h => ?_) (fun cdv A outer s H vs Q E hr h => ?_)
  · obtain ⟨v1, v2, a, b, rfl, _⟩ := h; rfl
  · obtain ⟨v1, v2, a, b, rfl, hn, ra, rb, d1, d2, q⟩ := h
    refine ⟨_, PSs.nox (pss_cons (ps_if (pt_val (pe_call G__law_fits (hr.mono (by omega)) (by rfl) T.g__law_fits T.F__law_fits.kp T.b__law_fits .nil pass0 (pa_cons (pv 0) (pa_cons (pv 1) pa_nil))))
    (pss_one (ps_ret (pv 1)))
    pss_nil)
    (pss_one (ps_ret (pe_ifExp (pt_val (pe_call G__law_fits (hr.mono (by omega)) (by rfl) T.g__law_fits T.F__law_fits.kp T.b__law_fits .nil pass0 (pa_cons (pv 1) (pa_cons (pv 0) pa_nil)))) (pv 0) pe_non)))), ?_⟩
    refine ⟨_, rfl, _, rfl, v1, v2, a, b, rfl, hn, ra, rb, d1, d2, fun H1 s1 => ⟨_, rfl, ?_⟩⟩
    by_cases h1 : fitsN n a b = true
    · rw [h1]
      exact iteT ⟨_, rfl, q H1 _ s1 (by unfold jd; rw [if_pos h1]; exact d2.same s1)⟩
    rw [eq_false_of_ne_true h1]
    refine iteF ⟨_, rfl, _, rfl, v2, v1, b, a, rfl, hn, rb, ra, d2.same s1, d1.same s1, fun H2 s2 => ⟨_, rfl, ?_⟩⟩
    by_cases h2 : fitsN n b a = true
    · rw [h2]
      exact iteT ⟨_, rfl, q H2 _ (s1.trans s2) (by unfold jd; rw [if_neg h1, if_pos h2]; exact d1.same (s1.trans s2))⟩
    rw [eq_false_of_ne_true h2]
    exact iteF (q H2 _ (s1.trans s2) (by unfold jd; rw [if_neg h1, if_neg h2]; exact .non))
end
end K01

set_option Elab.async false
set_option linter.all false
set_option maxRecDepth 100000
set_option maxHeartbeats 4000000
namespace K01
open PySem PySem.Spec PyProof.Rows L2
/-- the pool at pl: the script's numbers, three counters and the salt -/
def PoolC (pl sc : Addr) (xs : List Int) (i : Nat) (q n s : Int) (H : Hp) : Prop := H pl = some (.lst [.ref sc, .int i, .int q, .int n, .int s]) ∧ sc ≠ pl ∧ H sc = some (.lst (xs.map V.int)) ∧ xs.length ≤ 1000
def Pool (pl sc : Addr) (H : Hp) : Prop := ∃ xs i q n s, PoolC pl sc xs i q n s H
theorem Pool.same {pl sc : Addr} {H H' : Hp} (h : Pool pl sc H) (s : Same H H') : Pool pl sc H' := by
  obtain ⟨xs, i, q, n, t, h1, h2, h3, h4⟩ := h
  exact ⟨xs, i, q, n, t, s _ _ h1, h2, s _ _ h3, h4⟩
theorem cutV_mem {xs : List V} {lo hi : Option Int} {x : V} (h : x ∈ cutV xs lo hi) : x ∈ xs := List.mem_of_mem_drop (List.mem_of_mem_take h)
theorem int_of {ns : List Int} {x : V} (h : x ∈ ns.map V.int) : ∃ i, x = .int i := by
  obtain ⟨i, _, e⟩ := List.mem_map.mp h
  exact ⟨i, e.symm⟩
def spPool (K : PySem.W.Frag) : Sp := fun vs H Q _ => ∃ (a : Addr) (ns : List Int), vs = [.ref a] ∧ SqL K H a (ns.map V.int) ∧ ns.length ≤ 1000 ∧ ∀ H' p sc, Same H H' → H p = none → Pool p sc H' → Q (.ref p) H'
def spSpread : Sp := fun vs H Q _ => ∃ i : Int, vs = [.int i] ∧ ∀ j : Int, Q (.int j) H
def spDraw : Sp := fun vs H Q _ => ∃ (pl sc : Addr) (m : Nat), vs = [.ref pl, .int (m : Nat)] ∧ Pool pl sc H ∧ 0 < m ∧ m < 1000000 ∧ ∀ H' (r : Nat), But pl H H' → Pool pl sc H' → r < m → Q (.int (r : Nat)) H'
section
variable {P : Program} {w : World} {K : PySem.W.Frag} {mg : Str → Option Value} {base : Heap} (T : Txt K mg)
include T
theorem ok_pool : FnOk P w K mg base CX0 1 (He.ga K "_law_pool") T.d__law_pool ["script"] (spPool K) := by
  refine T.F__law_pool.ok sc_law_pool (fun vs H Q E h => ?_) (fun cdv A outer s H vs Q E hr h => ?_)
  · obtain ⟨a, ns, rfl, _⟩ := h; rfl
  · obtain ⟨a, ns, rfl, ha, hl, q⟩ := h
    refine ⟨_, PSs.nox (pss_cons (ps_set (i := 1) sc_law_pool.nd rfl (.inl rfl) pe_int)
    (pss_cons (ps_for PassesOwn.never rfl (pi_list (pe_slice sl_list (pv 0) po_none (po_some pe_int))) (pg_name (i := 2) sc_law_pool.nd rfl (.inl rfl))
    (pss_one (ps_set (i := 1) sc_law_pool.nd rfl (.inl rfl) (pe_op op_modN (pe_callTy call_int1 (by rfl) T.int (by decide +kernel) (pa_cons (pe_op op_add (pe_op op_mul (pv 1) pe_int) (pv 2)) pa_nil)) pe_int))))
    (pss_one (ps_ret (pe_lst (pa_cons (pe_callTy (r := rListOf K) call_list_of (by rfl) T.list (by decide +kernel) (pa_cons (pv 0) pa_nil)) (pa_cons pe_int (pa_cons pe_int (pa_cons pe_int (pa_cons (pv 1) pa_nil)))))))))), ?_⟩
    dsimp only [tNoPart]
    refine ⟨_, rfl, 63, rfl, a, _, rfl, ha, fun b hb => ?_⟩
    have s1 : Same H (upd H b (.lst (cutV (ns.map V.int) none (some 63)))) := Same.one hb
    have hx : ∀ x ∈ cutV (ns.map V.int) none (some 63), ∃ i, x = .int i := fun x h => int_of (cutV_mem h)
    have hb1 : SqL K (upd H b (.lst (cutV (ns.map V.int) none (some 63)))) b (cutV (ns.map V.int) none (some 63)) := sql_new upd_same
    revert s1 hb1 hx
    generalize cutV (ns.map V.int) none (some 63) = ys
    generalize upd H b (.lst ys) = H1
    intro s1 hx hb1
    refine ⟨b, rfl, ⟨_, hb1⟩, ?_⟩
    refine for_list (xs := ys) (fun i σ H' => H' = H1 ∧ ∃ (t : Int) (c : Option V), σ = [some (.ref a), some (.int t), c]) ⟨rfl, 7, none, rfl⟩ (fun i σ H' _ h => h.1 ▸ hb1) (fun i x σ H' hi h => ?_) (fun σ H' h => ?_)
    · obtain ⟨rfl, t, c, rfl⟩ := h
      obtain ⟨z, rfl⟩ := hx x (List.mem_of_getElem? hi)
      exact ⟨_, rfl, _, _, rfl, rfl, .inr ⟨by decide, by decide⟩, _, rfl, _, _, rfl, rfl, .inl ⟨_, rfl, _, _, rfl, rfl, (by show (1000003 : Int) ≠ 0; decide), rfl, _, _, rfl⟩⟩
    · obtain ⟨rfl, t, c, rfl⟩ := h
      refine ⟨_, rfl, a, _, rfl, .inl (s1.seq ha), fun l hl' => ⟨_, rfl, (by show 5 ≤ sizeLine; decide), fun p hp => ?_⟩⟩
      have hlp : l ≠ p := fun e => by rw [e, upd_same] at hp; cases hp
      have hpH : H' p = none := by
        have := hp; rw [upd_ne (fun e => hlp e.symm)] at this; exact this
      refine q _ p l ((s1.upd_new (s1.free hl')).upd_new (s1.free hpH)) (s1.free hpH) ⟨ns, 0, 0, 0, t, upd_same, hlp, ?_, hl⟩
      rw [upd_ne hlp, upd_same]
theorem ok_spread : FnOk P w K mg base CX0 1 (He.ga K "_law_spread") T.d__law_spread ["cell"] spSpread := by
  refine T.F__law_spread.ok sc_law_spread (fun vs H Q E h => ?_) (fun cdv A outer s H vs Q E hr h => ?_)
  · obtain ⟨a, rfl, _⟩ := h; rfl
  · obtain ⟨i, rfl, q⟩ := h
    refine ⟨_, PSs.nox (pss_cons (ps_set (i := 1) sc_law_spread.nd rfl (.inl rfl) (pe_op op_modN (pe_callTy call_int1 (by rfl) T.int (by decide +kernel) (pa_cons (pv 0) pa_nil)) pe_int))
    (pss_cons (ps_set (i := 2) sc_law_spread.nd rfl (.inl rfl) pe_int)
    (pss_cons (ps_for PassesOwn.never rfl (pi_range1 (by rfl) T.range (pa_cons pe_int pa_nil)) (pg_name (i := 3) sc_law_spread.nd rfl (.inl rfl))
    (pss_cons (ps_set (i := 1) sc_law_spread.nd rfl (.inl rfl) (pe_op op_modN (pe_callTy call_int1 (by rfl) T.int (by decide +kernel) (pa_cons (pe_op op_add (pe_op op_add (pe_op op_mul (pv 1) pe_int) pe_int) (pv 3)) pa_nil)) pe_int))
    (pss_one (ps_set (i := 2) sc_law_spread.nd rfl (.inl rfl) (pe_op op_add (pe_op op_mul (pv 2) pe_int) (pv 1))))))
    (pss_one (ps_ret (pv 2)))))), ?_⟩
    refine ⟨_, rfl, .inl ⟨_, rfl, _, _, rfl, rfl, (by show (2147483647 : Int) ≠ 0; decide), ?_⟩⟩
    refine ⟨4, rfl, by decide, by decide, ?_⟩
    refine for_range (lo := 0) (n := 4) (fun _ σ H' => H' = H ∧ ∃ (x y : Int) (c : Option V), σ = [some (.int i), some (.int x), some (.int y), c]) ⟨rfl, _, _, none, rfl⟩ (fun j σ H' hj h => ?_) (fun σ H' h => ?_)
    · obtain ⟨rfl, x, y, c, rfl⟩ := h
      exact ⟨_, rfl, _, _, rfl, rfl, .inr ⟨by decide, by decide⟩, _, _, rfl, rfl, _, rfl, _, _, rfl, rfl, .inl ⟨_, rfl, _, _, rfl, rfl, (by show (2147483647 : Int) ≠ 0; decide), _, rfl, _, _, rfl, rfl, .inr ⟨by decide, by decide⟩, _, rfl, _, _, rfl, rfl, rfl, _, _, _, rfl⟩⟩
    · obtain ⟨rfl, x, y, c, rfl⟩ := h
      exact ⟨_, rfl, q y⟩
theorem ok_draw : FnOk P w K mg base CX0 2 (He.ga K "_law_draw") T.d__law_draw ["pool", "many"] spDraw := by
  have G__law_spread := ok_spread (P := P) (w := w) (base := base) T
  refine T.F__law_draw.ok sc_law_draw (fun vs H Q E h => ?_) (fun cdv A outer s H vs Q E hr h => ?_)
  · obtain ⟨a, sc, m, rfl, _⟩ := h; rfl
  · obtain ⟨pl, sc, m, rfl, ⟨xs, i, q0, n, t, hp, hne, hs, hxl⟩, hm, hm2, q⟩ := h
    refine ⟨_, PSs.nox (pss_cons (ps_if (PW.pt (pw_and (pt_cmpR op_le (pe_ix (r := rIxL K) ix_list (pv 0) pe_int (fun _ _ => rfl)) pe_int (nomark _)) (pw_and1 (pt_cmpR op_lt (pe_ix (r := rIxL K) ix_list (pv 0) pe_int (fun _ _ => rfl)) (pe_callB (r := rLenS K) call_len_seq (by rfl) T.len (by decide +kernel) (pa_cons (pe_ix (r := rIxL K) ix_list (pv 0) pe_int (fun _ _ => rfl)) pa_nil)) (nomark _)))))
    (pss_cons (ps_set (i := 2) sc_law_draw.nd rfl (.inl rfl) (pe_ix (r := rIxL K) ix_list (pe_ix (r := rIxL K) ix_list (pv 0) pe_int (fun _ _ => rfl)) (pe_ix (r := rIxL K) ix_list (pv 0) pe_int (fun _ _ => rfl)) (fun _ _ => rfl)))
    (pss_cons (ps_asg (pe_op op_add (pe_ix (r := rIxL K) ix_list (pv 0) pe_int (fun _ _ => rfl)) pe_int) (pg_sub (pv 0) pe_int set_list))
    (pss_cons (ps_asg (pv 2) (pg_sub (pv 0) pe_int set_list))
    (pss_one (ps_if (pt_cmpR op_lt (pv 2) pe_int (nomark _))
    (pss_one (ps_asg (pe_call G__law_spread (hr.mono (by omega)) (by rfl) T.g__law_spread T.F__law_spread.kp T.b__law_spread .nil pass0 (pa_cons (pv 2) pa_nil)) (pg_sub (pv 0) pe_int set_list)))
    pss_nil)))))
    pss_nil)
    (pss_cons (ps_asg (pe_op op_add (pe_ix (r := rIxL K) ix_list (pv 0) pe_int (fun _ _ => rfl)) pe_int) (pg_sub (pv 0) pe_int set_list))
    (pss_cons (ps_if (pt_cmpR op_le (pe_ix (r := rIxL K) ix_list (pv 0) pe_int (fun _ _ => rfl)) pe_int (nomark _))
    (pss_cons (ps_set (i := 3) sc_law_draw.nd rfl (.inl rfl) (pe_op op_modN (pe_callTy call_int1 (by rfl) T.int (by decide +kernel) (pa_cons (pe_op op_add (pe_op op_add (pe_op op_mul (pe_ix (r := rIxL K) ix_list (pv 0) pe_int (fun _ _ => rfl)) pe_int) (pe_op op_mul (pe_ix (r := rIxL K) ix_list (pv 0) pe_int (fun _ _ => rfl)) pe_int)) pe_int) pa_nil)) pe_int))
    (pss_cons (ps_set (i := 3) sc_law_draw.nd rfl (.inl rfl) (pe_op op_modN (pe_callTy call_int1 (by rfl) T.int (by decide +kernel) (pa_cons (pe_op op_add (pe_op op_mul (pv 3) pe_int) (pe_ix (r := rIxL K) ix_list (pv 0) pe_int (fun _ _ => rfl))) pa_nil)) pe_int))
    (pss_one (ps_ret (pe_op op_modN (pe_op op_fdivN (pv 3) pe_int) (pv 1))))))
    pss_nil)
    (pss_cons (ps_set (i := 4) sc_law_draw.nd rfl (.inl rfl) (pe_op op_modN (pe_callTy call_int1 (by rfl) T.int (by decide +kernel) (pa_cons (pe_ix (r := rIxL K) ix_list (pv 0) pe_int (fun _ _ => rfl)) pa_nil)) (pv 1)))
    (pss_cons (ps_asg (pe_op op_fdivN (pe_ix (r := rIxL K) ix_list (pv 0) pe_int (fun _ _ => rfl)) (pv 1)) (pg_sub (pv 0) pe_int set_list))
    (pss_one (ps_ret (pv 4)))))))), ?_⟩
    refine ⟨_, rfl, pl, _, _, _, rfl, rfl, sql_new hp, at_v (n := 2) rfl rfl, _, _, rfl, rfl, _, rfl, ?_⟩
    have fin : ∀ (H1 : Hp) (i : Nat) (q1 n : Int) (r : Nat), But pl H H1 → PoolC pl sc xs i q1 n t H1 → r < m → Q (.int (r : Nat)) H1 := fun H1 i q1 n r b p hr => q H1 r b ⟨xs, i, q1, n, t, p⟩ hr
    have fin2 : ∀ (H1 : Hp) (i : Nat) (q1 n z : Int), But pl H H1 → PoolC pl sc xs i q1 n t H1 → Q (.int (z.fmod (m : Nat))) H1 := fun H1 i q1 n z b p => by
      have h0 : (0 : Int) ≤ z.fmod (m : Nat) := Int.fmod_nonneg_of_pos z (by omega)
      have h1 : z.fmod (m : Nat) < (m : Nat) := Int.fmod_lt_of_pos z (by omega)
      have e : z.fmod (m : Nat) = ((z.fmod (m : Nat)).toNat : Nat) := by omega
      rw [e]
      exact fin H1 i q1 n _ b p (by omega)
    refine ite2 (fun h1 => ?_) (fun h1 => ?_)
    · refine ⟨_, rfl, pl, _, _, _, rfl, rfl, sql_new hp, at_v (n := 1) rfl rfl, _, rfl, pl, _, _, _, rfl, rfl, sql_new hp, at_v (n := 0) rfl rfl, sc, _, rfl, .inl (sql_new hs), _, _, rfl, rfl, _, rfl, ?_⟩
      refine ite2 (fun h2 => ?_) (fun h2 => ?_)
      · have hi : i < xs.length := by have := of_decide_eq_true h2; rw [List.length_map] at this; omega
        have hz : (xs.map V.int)[i]? = some (.int xs[i]) := by rw [List.getElem?_map, List.getElem?_eq_getElem hi]; rfl
        refine ⟨_, rfl, pl, _, _, _, rfl, rfl, sql_new hp, at_v (n := 0) rfl rfl, _, rfl, pl, _, _, _, rfl, rfl, sql_new hp, at_v (n := 1) rfl rfl, sc, _, _, _, rfl, rfl, sql_new hs, at_v hz rfl, ?_⟩
        refine ⟨_, rfl, pl, _, _, _, rfl, rfl, sql_new hp, at_v (n := 1) rfl rfl, _, _, rfl, rfl, _, rfl, pl, _, _, 1, rfl, rfl, hp, rfl, ?_⟩
        refine ⟨_, rfl, _, rfl, pl, _, _, 2, rfl, rfl, upd_same, rfl, ?_⟩
        have p2 : PoolC pl sc xs (i + 1) xs[i] n t (upd (upd H pl (.lst [.ref sc, .int ((i : Int) + 1), .int q0, .int n, .int t])) pl (.lst [.ref sc, .int ((i : Int) + 1), .int xs[i], .int n, .int t])) :=
          ⟨upd_same, hne, by rw [upd_ne hne, upd_ne hne]; exact hs, hxl⟩
        have b2 : But pl H (upd (upd H pl (.lst [.ref sc, .int ((i : Int) + 1), .int q0, .int n, .int t])) pl (.lst [.ref sc, .int ((i : Int) + 1), .int xs[i], .int n, .int t])) := But.set.trans But.set
        refine ⟨_, rfl, _, _, rfl, rfl, _, rfl, ?_⟩
        refine ite2 (fun h3 => ?_) (fun h3 => ?_)
        · refine ⟨_, rfl, _, rfl, fun j => ⟨_, rfl, pl, _, _, 2, rfl, rfl, upd_same, rfl, ?_⟩⟩
          have p3 : PoolC pl sc xs (i + 1) j n t (upd (upd (upd H pl (.lst [.ref sc, .int ((i : Int) + 1), .int q0, .int n, .int t])) pl (.lst [.ref sc, .int ((i : Int) + 1), .int xs[i], .int n, .int t])) pl (.lst [.ref sc, .int ((i : Int) + 1), .int j, .int n, .int t])) :=
            ⟨upd_same, hne, by rw [upd_ne hne, upd_ne hne, upd_ne hne]; exact hs, hxl⟩
          have b3 := b2.trans (But.set (o := .lst [.ref sc, .int ((i : Int) + 1), .int j, .int n, .int t]))
          have pc : PoolC pl sc xs (i + 1) j n t _ := p3
          have bt : But pl H _ := b3
          obtain ⟨hp1, _, hs1, _⟩ := id pc
          refine ⟨_, rfl, pl, _, _, _, rfl, rfl, sql_new hp1, at_v (n := 3) rfl rfl, _, _, rfl, rfl, _, rfl, pl, _, _, 3, rfl, rfl, hp1, rfl, ?_⟩
          have hp2 : (upd (upd (upd (upd H pl (.lst [.ref sc, .int ((i : Int) + 1), .int q0, .int n, .int t])) pl (.lst [.ref sc, .int ((i : Int) + 1), .int xs[i], .int n, .int t])) pl (.lst [.ref sc, .int ((i : Int) + 1), .int j, .int n, .int t])) pl (.lst [.ref sc, .int (((i + 1) : Nat) : Int), .int j, .int (n + 1), .int t])) pl = some (.lst [.ref sc, .int (((i + 1) : Nat) : Int), .int j, .int (n + 1), .int t]) := upd_same
          have pc2 : PoolC pl sc xs (i + 1) j (n + 1) t (upd (upd (upd (upd H pl (.lst [.ref sc, .int ((i : Int) + 1), .int q0, .int n, .int t])) pl (.lst [.ref sc, .int ((i : Int) + 1), .int xs[i], .int n, .int t])) pl (.lst [.ref sc, .int ((i : Int) + 1), .int j, .int n, .int t])) pl (.lst [.ref sc, .int (((i + 1) : Nat) : Int), .int j, .int (n + 1), .int t])) := ⟨upd_same, hne, by rw [upd_ne hne]; exact hs1, hxl⟩
          have bt2 : But pl H (upd (upd (upd (upd H pl (.lst [.ref sc, .int ((i : Int) + 1), .int q0, .int n, .int t])) pl (.lst [.ref sc, .int ((i : Int) + 1), .int xs[i], .int n, .int t])) pl (.lst [.ref sc, .int ((i : Int) + 1), .int j, .int n, .int t])) pl (.lst [.ref sc, .int (((i + 1) : Nat) : Int), .int j, .int (n + 1), .int t])) := bt.trans But.set
          refine ⟨_, rfl, pl, _, _, _, rfl, rfl, sql_new hp2, at_v (n := 2) rfl rfl, _, _, rfl, rfl, _, rfl, ?_⟩
          refine ite2 (fun h5 => ?_) (fun h5 => ?_)
          · refine ⟨_, rfl, pl, _, _, _, rfl, rfl, sql_new hp2, at_v (n := 4) rfl rfl, _, _, rfl, rfl, .inr ⟨by decide, by decide⟩, _, rfl, pl, _, _, _, rfl, rfl, sql_new hp2, at_v (n := 3) rfl rfl, _, _, rfl, rfl, .inr ⟨by decide, by decide⟩, _, _, rfl, rfl, _, _, rfl, rfl, .inl ⟨_, rfl, _, _, rfl, rfl, (by show (2147483647 : Int) ≠ 0; decide), ?_⟩⟩
            refine ⟨_, rfl, _, _, rfl, rfl, .inr ⟨by decide, by decide⟩, _, rfl, pl, _, _, _, rfl, rfl, sql_new hp2, at_v (n := 3) rfl rfl, _, _, rfl, rfl, .inl ⟨_, rfl, _, _, rfl, rfl, (by show (2147483629 : Int) ≠ 0; decide), ?_⟩⟩
            refine ⟨_, rfl, _, _, rfl, rfl, ⟨by decide, by decide⟩, _, rfl, _, _, rfl, rfl, (by show ((m : Nat) : Int) ≠ 0; omega), ?_⟩
            exact fin2 _ _ _ _ _ bt2 pc2
          · refine ⟨_, rfl, pl, _, _, _, rfl, rfl, sql_new hp2, at_v (n := 2) rfl rfl, .inl ⟨_, rfl, _, rfl, _, _, rfl, rfl, (by show ((m : Nat) : Int) ≠ 0; omega), ?_⟩⟩
            refine ⟨_, rfl, pl, _, _, _, rfl, rfl, sql_new hp2, at_v (n := 2) rfl rfl, _, rfl, _, _, rfl, rfl, ⟨by omega, by omega⟩, _, rfl, pl, _, _, 2, rfl, rfl, hp2, rfl, ?_⟩
            exact ⟨_, rfl, fin2 _ (i + 1) (j.fdiv (m : Nat)) (n + 1) j (bt2.trans But.set) ⟨upd_same, hne, by rw [upd_ne hne, upd_ne hne]; exact hs1, hxl⟩⟩
        · have pc : PoolC pl sc xs (i + 1) xs[i] n t _ := p2
          have bt : But pl H _ := b2
          obtain ⟨hp1, _, hs1, _⟩ := id pc
          refine ⟨_, rfl, pl, _, _, _, rfl, rfl, sql_new hp1, at_v (n := 3) rfl rfl, _, _, rfl, rfl, _, rfl, pl, _, _, 3, rfl, rfl, hp1, rfl, ?_⟩
          have hp2 : (upd (upd (upd H pl (.lst [.ref sc, .int ((i : Int) + 1), .int q0, .int n, .int t])) pl (.lst [.ref sc, .int ((i : Int) + 1), .int xs[i], .int n, .int t])) pl (.lst [.ref sc, .int (((i + 1) : Nat) : Int), .int (xs[i]), .int (n + 1), .int t])) pl = some (.lst [.ref sc, .int (((i + 1) : Nat) : Int), .int (xs[i]), .int (n + 1), .int t]) := upd_same
          have pc2 : PoolC pl sc xs (i + 1) (xs[i]) (n + 1) t (upd (upd (upd H pl (.lst [.ref sc, .int ((i : Int) + 1), .int q0, .int n, .int t])) pl (.lst [.ref sc, .int ((i : Int) + 1), .int xs[i], .int n, .int t])) pl (.lst [.ref sc, .int (((i + 1) : Nat) : Int), .int (xs[i]), .int (n + 1), .int t])) := ⟨upd_same, hne, by rw [upd_ne hne]; exact hs1, hxl⟩
          have bt2 : But pl H (upd (upd (upd H pl (.lst [.ref sc, .int ((i : Int) + 1), .int q0, .int n, .int t])) pl (.lst [.ref sc, .int ((i : Int) + 1), .int xs[i], .int n, .int t])) pl (.lst [.ref sc, .int (((i + 1) : Nat) : Int), .int (xs[i]), .int (n + 1), .int t])) := bt.trans But.set
          refine ⟨_, rfl, pl, _, _, _, rfl, rfl, sql_new hp2, at_v (n := 2) rfl rfl, _, _, rfl, rfl, _, rfl, ?_⟩
          refine ite2 (fun h5 => ?_) (fun h5 => ?_)
          · refine ⟨_, rfl, pl, _, _, _, rfl, rfl, sql_new hp2, at_v (n := 4) rfl rfl, _, _, rfl, rfl, .inr ⟨by decide, by decide⟩, _, rfl, pl, _, _, _, rfl, rfl, sql_new hp2, at_v (n := 3) rfl rfl, _, _, rfl, rfl, .inr ⟨by decide, by decide⟩, _, _, rfl, rfl, _, _, rfl, rfl, .inl ⟨_, rfl, _, _, rfl, rfl, (by show (2147483647 : Int) ≠ 0; decide), ?_⟩⟩
            refine ⟨_, rfl, _, _, rfl, rfl, .inr ⟨by decide, by decide⟩, _, rfl, pl, _, _, _, rfl, rfl, sql_new hp2, at_v (n := 3) rfl rfl, _, _, rfl, rfl, .inl ⟨_, rfl, _, _, rfl, rfl, (by show (2147483629 : Int) ≠ 0; decide), ?_⟩⟩
            refine ⟨_, rfl, _, _, rfl, rfl, ⟨by decide, by decide⟩, _, rfl, _, _, rfl, rfl, (by show ((m : Nat) : Int) ≠ 0; omega), ?_⟩
            exact fin2 _ _ _ _ _ bt2 pc2
          · refine ⟨_, rfl, pl, _, _, _, rfl, rfl, sql_new hp2, at_v (n := 2) rfl rfl, .inl ⟨_, rfl, _, rfl, _, _, rfl, rfl, (by show ((m : Nat) : Int) ≠ 0; omega), ?_⟩⟩
            refine ⟨_, rfl, pl, _, _, _, rfl, rfl, sql_new hp2, at_v (n := 2) rfl rfl, _, rfl, _, _, rfl, rfl, ⟨by omega, by omega⟩, _, rfl, pl, _, _, 2, rfl, rfl, hp2, rfl, ?_⟩
            exact ⟨_, rfl, fin2 _ (i + 1) ((xs[i]).fdiv (m : Nat)) (n + 1) (xs[i]) (bt2.trans But.set) ⟨upd_same, hne, by rw [upd_ne hne, upd_ne hne]; exact hs1, hxl⟩⟩
      · have pc : PoolC pl sc xs i q0 n t _ := ⟨hp, hne, hs, hxl⟩
        have bt : But pl H _ := But.refl pl H
        obtain ⟨hp1, _, hs1, _⟩ := id pc
        refine ⟨_, rfl, pl, _, _, _, rfl, rfl, sql_new hp1, at_v (n := 3) rfl rfl, _, _, rfl, rfl, _, rfl, pl, _, _, 3, rfl, rfl, hp1, rfl, ?_⟩
        have hp2 : (upd H pl (.lst [.ref sc, .int ((i : Nat) : Int), .int q0, .int (n + 1), .int t])) pl = some (.lst [.ref sc, .int ((i : Nat) : Int), .int q0, .int (n + 1), .int t]) := upd_same
        have pc2 : PoolC pl sc xs i q0 (n + 1) t (upd H pl (.lst [.ref sc, .int ((i : Nat) : Int), .int q0, .int (n + 1), .int t])) := ⟨upd_same, hne, by rw [upd_ne hne]; exact hs1, hxl⟩
        have bt2 : But pl H (upd H pl (.lst [.ref sc, .int ((i : Nat) : Int), .int q0, .int (n + 1), .int t])) := bt.trans But.set
        refine ⟨_, rfl, pl, _, _, _, rfl, rfl, sql_new hp2, at_v (n := 2) rfl rfl, _, _, rfl, rfl, _, rfl, ?_⟩
        refine ite2 (fun h5 => ?_) (fun h5 => ?_)
        · refine ⟨_, rfl, pl, _, _, _, rfl, rfl, sql_new hp2, at_v (n := 4) rfl rfl, _, _, rfl, rfl, .inr ⟨by decide, by decide⟩, _, rfl, pl, _, _, _, rfl, rfl, sql_new hp2, at_v (n := 3) rfl rfl, _, _, rfl, rfl, .inr ⟨by decide, by decide⟩, _, _, rfl, rfl, _, _, rfl, rfl, .inl ⟨_, rfl, _, _, rfl, rfl, (by show (2147483647 : Int) ≠ 0; decide), ?_⟩⟩
          refine ⟨_, rfl, _, _, rfl, rfl, .inr ⟨by decide, by decide⟩, _, rfl, pl, _, _, _, rfl, rfl, sql_new hp2, at_v (n := 3) rfl rfl, _, _, rfl, rfl, .inl ⟨_, rfl, _, _, rfl, rfl, (by show (2147483629 : Int) ≠ 0; decide), ?_⟩⟩
          refine ⟨_, rfl, _, _, rfl, rfl, ⟨by decide, by decide⟩, _, rfl, _, _, rfl, rfl, (by show ((m : Nat) : Int) ≠ 0; omega), ?_⟩
          exact fin2 _ _ _ _ _ bt2 pc2
        · refine ⟨_, rfl, pl, _, _, _, rfl, rfl, sql_new hp2, at_v (n := 2) rfl rfl, .inl ⟨_, rfl, _, rfl, _, _, rfl, rfl, (by show ((m : Nat) : Int) ≠ 0; omega), ?_⟩⟩
          refine ⟨_, rfl, pl, _, _, _, rfl, rfl, sql_new hp2, at_v (n := 2) rfl rfl, _, rfl, _, _, rfl, rfl, ⟨by omega, by omega⟩, _, rfl, pl, _, _, 2, rfl, rfl, hp2, rfl, ?_⟩
          exact ⟨_, rfl, fin2 _ i (q0.fdiv (m : Nat)) (n + 1) q0 (bt2.trans But.set) ⟨upd_same, hne, by rw [upd_ne hne, upd_ne hne]; exact hs1, hxl⟩⟩
    · have pc : PoolC pl sc xs i q0 n t _ := ⟨hp, hne, hs, hxl⟩
      have bt : But pl H _ := But.refl pl H
      obtain ⟨hp1, _, hs1, _⟩ := id pc
      refine ⟨_, rfl, pl, _, _, _, rfl, rfl, sql_new hp1, at_v (n := 3) rfl rfl, _, _, rfl, rfl, _, rfl, pl, _, _, 3, rfl, rfl, hp1, rfl, ?_⟩
      have hp2 : (upd H pl (.lst [.ref sc, .int ((i : Nat) : Int), .int q0, .int (n + 1), .int t])) pl = some (.lst [.ref sc, .int ((i : Nat) : Int), .int q0, .int (n + 1), .int t]) := upd_same
      have pc2 : PoolC pl sc xs i q0 (n + 1) t (upd H pl (.lst [.ref sc, .int ((i : Nat) : Int), .int q0, .int (n + 1), .int t])) := ⟨upd_same, hne, by rw [upd_ne hne]; exact hs1, hxl⟩
      have bt2 : But pl H (upd H pl (.lst [.ref sc, .int ((i : Nat) : Int), .int q0, .int (n + 1), .int t])) := bt.trans But.set
      refine ⟨_, rfl, pl, _, _, _, rfl, rfl, sql_new hp2, at_v (n := 2) rfl rfl, _, _, rfl, rfl, _, rfl, ?_⟩
      refine ite2 (fun h5 => ?_) (fun h5 => ?_)
      · refine ⟨_, rfl, pl, _, _, _, rfl, rfl, sql_new hp2, at_v (n := 4) rfl rfl, _, _, rfl, rfl, .inr ⟨by decide, by decide⟩, _, rfl, pl, _, _, _, rfl, rfl, sql_new hp2, at_v (n := 3) rfl rfl, _, _, rfl, rfl, .inr ⟨by decide, by decide⟩, _, _, rfl, rfl, _, _, rfl, rfl, .inl ⟨_, rfl, _, _, rfl, rfl, (by show (2147483647 : Int) ≠ 0; decide), ?_⟩⟩
        refine ⟨_, rfl, _, _, rfl, rfl, .inr ⟨by decide, by decide⟩, _, rfl, pl, _, _, _, rfl, rfl, sql_new hp2, at_v (n := 3) rfl rfl, _, _, rfl, rfl, .inl ⟨_, rfl, _, _, rfl, rfl, (by show (2147483629 : Int) ≠ 0; decide), ?_⟩⟩
        refine ⟨_, rfl, _, _, rfl, rfl, ⟨by decide, by decide⟩, _, rfl, _, _, rfl, rfl, (by show ((m : Nat) : Int) ≠ 0; omega), ?_⟩
        exact fin2 _ _ _ _ _ bt2 pc2
      · refine ⟨_, rfl, pl, _, _, _, rfl, rfl, sql_new hp2, at_v (n := 2) rfl rfl, .inl ⟨_, rfl, _, rfl, _, _, rfl, rfl, (by show ((m : Nat) : Int) ≠ 0; omega), ?_⟩⟩
        refine ⟨_, rfl, pl, _, _, _, rfl, rfl, sql_new hp2, at_v (n := 2) rfl rfl, _, rfl, _, _, rfl, rfl, ⟨by omega, by omega⟩, _, rfl, pl, _, _, 2, rfl, rfl, hp2, rfl, ?_⟩
        exact ⟨_, rfl, fin2 _ i (q0.fdiv (m : Nat)) (n + 1) q0 (bt2.trans But.set) ⟨upd_same, hne, by rw [upd_ne hne, upd_ne hne]; exact hs1, hxl⟩⟩
end
end K01

set_option Elab.async false
set_option linter.all false
set_option maxRecDepth 100000
set_option maxHeartbeats 4000000
namespace K01
open PySem PySem.Spec PyProof.Rows L2
def sel : List Bool → List Str → List Str
  | b :: bs, x :: xs => if b then x :: sel bs xs else sel bs xs
  | _, _ => []
theorem sel_snoc : ∀ (bs : List Bool) (b : Bool) (xs : List Str) (x : Str), xs[bs.length]? = some x → sel (bs ++ [b]) xs = sel bs xs ++ (if b then [x] else [])
  | [], b, [], x, h => by simp at h
  | [], b, y :: ys, x, h => by
    have e : y = x := by simpa using h
    subst e
    cases b <;> simp [sel]
  | c :: bs, b, [], x, h => by simp at h
  | c :: bs, b, y :: ys, x, h => by
    have ih := sel_snoc bs b ys x (by simpa using h)
    cases c <;> simp [sel, ih]
theorem sel_len : ∀ (bs : List Bool) (xs : List Str), (sel bs xs).length ≤ bs.length
  | [], xs => by simp [sel]
  | c :: bs, [] => by simp [sel]
  | c :: bs, y :: ys => by
    have ih := sel_len bs ys
    cases c <;> simp [sel] <;> omega
theorem sel_eff {bs : List Bool} (h : bs.length = 4) : ∃ e : Ef, sel bs effs = effL e := by
  match bs, h with
  | [a, b, c, d], _ => exact ⟨⟨a, b, c, d⟩, by cases a <;> cases b <;> cases c <;> cases d <;> rfl⟩
theorem mk_fn (e : Ef) (r : Kd) : ∀ (ks : List Kd), ks.length ≤ 2 → ∃ k, toD k = .tuple [.str "fun", .tuple (ks.map toD), toD r, .tuple (sds (effL e))] ∧ isFn k = true ∧ ∀ n, (∀ x ∈ ks, rank x ≤ n) → rank r ≤ n → rank k ≤ n + 1
  | [], _ => ⟨.fn0 e r, rfl, rfl, fun n _ h => by simp only [rank]; omega⟩
  | [p], _ => ⟨.fn1 e p r, rfl, rfl, fun n g h => by have := g p (by simp); simp only [rank]; omega⟩
  | [p, q], _ => ⟨.fn2 e p q r, rfl, rfl, fun n g h => by have := g p (by simp); have := g q (by simp); simp only [rank]; omega⟩
  | _ :: _ :: _ :: _, h => by simp at h
/-- a kind's value, the pool's list aside -/
def Kv (K : PySem.W.Frag) (pl : Addr) (H : Hp) (v : V) (k : Kd) : Prop := Dp K (hid pl H) v (toD k)
theorem Kv.but {K : PySem.W.Frag} {pl : Addr} {H H' : Hp} {v : V} {k : Kd} (h : Kv K pl H v k) (b : But pl H H') : Kv K pl H' v k := Dp.same h b
theorem Kv.dp {K : PySem.W.Frag} {pl : Addr} {H : Hp} {v : V} {k : Kd} (h : Kv K pl H v k) : Dp K H v (toD k) := Dp.same h (hid_le pl H)
theorem Pool.ne {pl sc : Addr} {H : Hp} (h : Pool pl sc H) {a : Addr} (ha : H a = none) : a ≠ pl := fun e => by
  obtain ⟨_, _, _, _, _, h1, _⟩ := h
  rw [e, h1] at ha; cases ha
theorem hid_upd {pl a : Addr} {H : Hp} {o : HO} (h : a ≠ pl) : hid pl (upd H a o) = upd (hid pl H) a o := by
  funext b
  by_cases e : b = pl
  · subst e
    rw [upd_ne (fun z => h z.symm)]
    unfold hid; rw [if_pos rfl, if_pos rfl]
  · rw [hid_at e]
    by_cases e2 : b = a
    · subst e2; rw [upd_same, upd_same]
    · rw [upd_ne e2, upd_ne e2, hid_at e]
theorem hid_none {pl a : Addr} {H : Hp} (h : H a = none) : hid pl H a = none := by
  by_cases e : a = pl
  · unfold hid; rw [if_pos e]
  · rw [hid_at e]; exact h
/-- texts and tuples alone -/
inductive NoL : PyData → Prop where
  | str (x : Str) : NoL (.str x)
  | tup {ds : List PyData} (h : ∀ d ∈ ds, NoL d) : NoL (.tuple ds)
theorem NoL.inn {ds : List PyData} (h : NoL (.tuple ds)) : ∀ d ∈ ds, NoL d := by cases h; assumption
theorem noL_sds (l : List Str) : NoL (.tuple (sds l)) := .tup fun d hd => by
  obtain ⟨x, _, rfl⟩ := List.mem_map.mp hd
  exact .str x
theorem noL_tup : ∀ {l : List PyData}, (∀ i, i < l.length → NoL (l.getD i .none)) → NoL (.tuple l) := fun {l} h => .tup fun d hd => by
  obtain ⟨i, hi, e⟩ := List.getElem_of_mem hd
  have := h i hi
  rw [List.getD_eq_getElem?_getD, List.getElem?_eq_getElem hi] at this
  rw [← e]; exact this
theorem noL_fn {p : List PyData} {r : PyData} (e : Ef) (hp : NoL (.tuple p)) (hr : NoL r) : NoL (.tuple [.str "fun", .tuple p, r, .tuple (sds (effL e))]) := noL_tup fun i hi => by
  match i, hi with
  | 0, _ => exact .str _
  | 1, _ => exact hp
  | 2, _ => exact hr
  | 3, _ => exact noL_sds _
theorem noL_toD (k : Kd) : NoL (toD k) := by
  induction k with
  | arr k ih =>
    exact noL_tup fun i hi => by
      match i, hi with
      | 0, _ => exact .str _
      | 1, _ => exact ih
  | fn0 e r ih => exact noL_fn e (noL_tup fun i hi => absurd hi (by simp)) ih
  | fn1 e p r ihp ih =>
    exact noL_fn e (noL_tup fun i hi => by
      match i, hi with
      | 0, _ => exact ihp) ih
  | fn2 e p q r ihp ihq ih =>
    exact noL_fn e (noL_tup fun i hi => by
      match i, hi with
      | 0, _ => exact ihp
      | 1, _ => exact ihq) ih
  | named => exact noL_sds ["named", "main", "tree"]
  | int => exact noL_sds ["int"]
  | bool => exact noL_sds ["bool"]
  | unit => exact noL_sds ["unit"]
  | never => exact noL_sds ["never"]
theorem sqt_upd {K : PySem.W.Frag} {G : Hp} {D a : Addr} {l xs : List V} {o : HO} (h : SqT K G a xs) (hD : G D = some (.lst l)) : SqT K (upd G D o) a xs := by
  rcases h with (h | ⟨b, h⟩) | h
  · exact .inl (.inl (by rw [upd_ne (fun e => by rw [e, hD] at h; cases h)]; exact h))
  · exact .inl (.inr ⟨b, by rw [upd_ne (fun e => by rw [e, hD] at h; cases h)]; exact h⟩)
  · exact .inr h
mutual
theorem dp_upd {K : PySem.W.Frag} {G : Hp} {D : Addr} {l : List V} {o : HO} (hD : G D = some (.lst l)) : ∀ (d : PyData) (v : V), Dp K G v d → NoL d → Dp K (upd G D o) v d
  | .none, _, _, n => by cases n
  | .bool _, _, _, n => by cases n
  | .int _, _, _, n => by cases n
  | .str x, _, h, _ => by cases h; exact .str x
  | .list _, _, _, n => by cases n
  | .dict _, _, _, n => by cases n
  | .tuple ds, _, h, n => by cases h with | tup hs ha => exact .tup (sqt_upd hs hD) (dps_upd hD ds _ ha n.inn)
theorem dps_upd {K : PySem.W.Frag} {G : Hp} {D : Addr} {l : List V} {o : HO} (hD : G D = some (.lst l)) : ∀ (ds : List PyData) (vs : List V), DpAll K G vs ds → (∀ d ∈ ds, NoL d) → DpAll K (upd G D o) vs ds
  | [], _, h, _ => by cases h; exact .nil
  | d :: ds, _, h, n => by
    cases h with
    | cons h1 h2 => exact .cons (dp_upd hD d _ h1 (n d List.mem_cons_self)) (dps_upd hD ds _ h2 fun e he => n e (List.mem_cons_of_mem _ he))
end
/-! comprehensions beside the pool: effects, kinds -/
def EfC (pl sc : Addr) (H1 : Hp) (D : Addr) (i : Nat) (H : Hp) : Prop := But pl H1 H ∧ Pool pl sc H ∧ ∃ bs : List Bool, bs.length = i ∧ H D = some (.lst ((sel bs effs).map V.str))
theorem But.upd_new {pl D : Addr} {H1 H : Hp} {o : HO} (b : But pl H1 H) (h : H1 D = none) (n : D ≠ pl) : But pl H1 (upd H D o) := by
  unfold But
  rw [hid_upd n]
  exact Same.upd_new b (hid_none h)
theorem Pool.sc_at {pl sc : Addr} {H : Hp} (h : Pool pl sc H) : sc ≠ pl ∧ ∃ l, H sc = some (.lst l) := by
  obtain ⟨_, _, _, _, _, _, h2, h3, _⟩ := h
  exact ⟨h2, _, h3⟩
theorem Pool.nes {pl sc : Addr} {H : Hp} (h : Pool pl sc H) {a : Addr} (ha : H a = none) : sc ≠ a := fun e => by
  obtain ⟨_, l, hl⟩ := h.sc_at
  rw [e, ha] at hl; cases hl
theorem Pool.upd {pl sc D : Addr} {H : Hp} {o : HO} (h : Pool pl sc H) (n : D ≠ pl) (nd : sc ≠ D) : Pool pl sc (L2.upd H D o) := by
  obtain ⟨xs, i, q, m, t, h1, h2, h3, h4⟩ := h
  exact ⟨xs, i, q, m, t, by rw [upd_ne (fun e => n e.symm)]; exact h1, h2, by rw [upd_ne nd]; exact h3, h4⟩
theorem EfC.zero {pl sc : Addr} {H1 : Hp} {D : Addr} (p : Pool pl sc H1) (hD : H1 D = none) : EfC pl sc H1 D 0 (upd H1 D (.lst [])) :=
  ⟨(But.refl pl H1).upd_new hD (p.ne hD), p.upd (p.ne hD) (p.nes hD), [], rfl, upd_same⟩
theorem EfC.yes {pl sc : Addr} {H1 H H4 : Hp} {D : Addr} {i : Nat} {x : Str} (h : EfC pl sc H1 D i H) (p1 : Pool pl sc H1) (hD : H1 D = none) (hx : effs[i]? = some x) (b : But pl H H4) (p : Pool pl sc H4) :
    ∃ acc, H4 D = some (.lst acc) ∧ acc.length < sizeLine ∧ EfC pl sc H1 D (i + 1) (upd H4 D (.lst (acc ++ [V.str x]))) := by
  obtain ⟨b1, _, bs, hl, hb⟩ := h
  have n := p1.ne hD
  refine ⟨_, b.at hb n, ?_, (b1.trans b).upd_new hD n, p.upd n (p1.nes hD), bs ++ [true], by simp [hl], ?_⟩
  · have h1 := sel_len bs effs
    have h2 : i < effs.length := (List.getElem?_eq_some_iff.mp hx).1
    have h3 : effs.length = 4 := rfl
    rw [List.length_map, sizeLine_eq]; omega
  · rw [upd_same, sel_snoc bs true effs x (by rw [hl]; exact hx), List.map_append]; rfl
theorem EfC.no {pl sc : Addr} {H1 H H4 : Hp} {D : Addr} {i : Nat} {x : Str} (h : EfC pl sc H1 D i H) (p1 : Pool pl sc H1) (hD : H1 D = none) (hx : effs[i]? = some x) (b : But pl H H4) (p : Pool pl sc H4) : EfC pl sc H1 D (i + 1) H4 := by
  obtain ⟨b1, _, bs, hl, hb⟩ := h
  refine ⟨b1.trans b, p, bs ++ [false], by simp [hl], ?_⟩
  rw [sel_snoc bs false effs x (by rw [hl]; exact hx)]
  simpa using b.at hb (p1.ne hD)
theorem EfC.end {pl sc : Addr} {H1 H : Hp} {D : Addr} (h : EfC pl sc H1 D 4 H) : But pl H1 H ∧ Pool pl sc H ∧ ∃ e, H D = some (.lst ((effL e).map V.str)) := by
  obtain ⟨b, p, bs, hl, hb⟩ := h
  obtain ⟨e, he⟩ := sel_eff hl
  exact ⟨b, p, e, by rw [← he]; exact hb⟩
def KdC (K : PySem.W.Frag) (pl sc : Addr) (m : Nat) (H1 : Hp) (D : Addr) (i : Nat) (H : Hp) : Prop := But pl H1 H ∧ Pool pl sc H ∧ ∃ (vs : List V) (ks : List Kd), H D = some (.lst vs) ∧ ks.length = i ∧ DpAll K (hid pl H) vs (ks.map toD) ∧ ∀ x ∈ ks, rank x ≤ m
theorem KdC.zero {K : PySem.W.Frag} {pl sc : Addr} {m : Nat} {H1 : Hp} {D : Addr} (p : Pool pl sc H1) (hD : H1 D = none) : KdC K pl sc m H1 D 0 (upd H1 D (.lst [])) :=
  ⟨(But.refl pl H1).upd_new hD (p.ne hD), p.upd (p.ne hD) (p.nes hD), [], [], upd_same, rfl, .nil, by simp⟩
theorem KdC.yes {K : PySem.W.Frag} {pl sc : Addr} {m : Nat} {H1 H H4 : Hp} {D : Addr} {i : Nat} {v : V} {k : Kd} (h : KdC K pl sc m H1 D i H) (p1 : Pool pl sc H1) (hD : H1 D = none) (b : But pl H H4) (p : Pool pl sc H4) (kv : Kv K pl H4 v k) (hk : rank k ≤ m) (hi : i < 100) :
    ∃ acc, H4 D = some (.lst acc) ∧ acc.length < sizeLine ∧ KdC K pl sc m H1 D (i + 1) (upd H4 D (.lst (acc ++ [v]))) := by
  obtain ⟨b1, _, vs, ks, hv, hl, hd, hr⟩ := h
  have n := p1.ne hD
  have hv4 := b.at hv n
  refine ⟨_, hv4, ?_, (b1.trans b).upd_new hD n, p.upd n (p1.nes hD), vs ++ [v], ks ++ [k], upd_same, by simp [hl], ?_, ?_⟩
  · rw [hd.len, List.length_map, sizeLine_eq]; omega
  · rw [hid_upd n, List.map_append]
    have h4 : hid pl H4 D = some (.lst vs) := by rw [hid_at n]; exact hv4
    have nl : ∀ d ∈ ks.map toD, NoL d := fun d hd => by obtain ⟨k, _, rfl⟩ := List.mem_map.mp hd; exact noL_toD k
    exact (dps_upd h4 _ _ (DpAll.same hd b) nl).app (.cons (dp_upd h4 _ _ kv (noL_toD k)) .nil)
  · intro x hx
    rcases List.mem_append.mp hx with h | h
    · exact hr x h
    · simp at h; subst h; exact hk
def spPick (K : PySem.W.Frag) : Sp := fun vs H Q _ => ∃ (pl sc a : Addr) (xs : List V), vs = [.ref pl, .ref a] ∧ Pool pl sc H ∧ SqL K (hid pl H) a xs ∧ 0 < xs.length ∧ xs.length < 1000000 ∧ ∀ H' (v : V), But pl H H' → Pool pl sc H' → v ∈ xs → Q v H'
def spSome (K : PySem.W.Frag) (n : Nat) : Sp := fun vs H Q _ => ∃ (pl sc : Addr) (m : Nat), vs = [.ref pl, .int (m : Nat)] ∧ m < n ∧ Pool pl sc H ∧ ∀ H' v k, But pl H H' → Pool pl sc H' → Kv K pl H' v k → rank k ≤ m → Q v H'
def spNear (K : PySem.W.Frag) (n : Nat) : Sp := fun vs H Q _ => ∃ (pl sc : Addr) (v : V) (k : Kd), vs = [.ref pl, v] ∧ rank k < n ∧ Pool pl sc H ∧ Kv K pl H v k ∧ ∀ H' v' k', But pl H H' → Pool pl sc H' → Kv K pl H' v' k' → rank k' ≤ rank k → Q v' H'
section
variable {P : Program} {w : World} {K : PySem.W.Frag} {mg : Str → Option Value} {base : Heap} (T : Txt K mg)
include T
theorem ok_pick : FnOk P w K mg base CX0 3 (He.ga K "_law_pick") T.d__law_pick ["pool", "items"] (spPick K) := by
  have G__law_draw := ok_draw (P := P) (w := w) (base := base) T
  refine T.F__law_pick.ok sc_law_pick (fun vs H Q E h => ?_) (fun cdv A outer s H vs Q E hr h => ?_)
  · obtain ⟨a, sc, b, xs, rfl, _⟩ := h; rfl
  · obtain ⟨pl, sc, a, xs, rfl, hp, ha, h0, h1, q⟩ := h
    refine ⟨_, PSs.nox (pss_one (ps_ret (pe_ix (r := rIxL K) ix_list (pv 1) (pe_call G__law_draw (hr.mono (by omega)) (by rfl) T.g__law_draw T.F__law_draw.kp T.b__law_draw .nil pass0 (pa_cons (pv 0) (pa_cons (pe_callB (r := rLenS K) call_len_seq (by rfl) T.len (by decide +kernel) (pa_cons (pv 1) pa_nil)) pa_nil))) (fun _ _ => rfl)))), ?_⟩
    have ha1 := (hid_le pl H).seq ha
    refine ⟨_, rfl, _, rfl, _, rfl, a, _, rfl, .inl ha1, pl, sc, xs.length, rfl, hp, h0, h1, fun H' r b p hr' => ?_⟩
    have hx : xs[r]? = some xs[r] := List.getElem?_eq_getElem hr'
    exact ⟨a, xs, _, _, rfl, rfl, (hid_le pl H').seq (L2.Same.seq b ha), atI_nat hx, q H' _ b p (List.getElem_mem hr')⟩
end
end K01

set_option Elab.async false
set_option linter.all false
set_option maxRecDepth 100000
set_option maxHeartbeats 4000000
namespace K01
open PySem PySem.Spec PyProof.Rows L2
theorem dp_leaf {K : PySem.W.Frag} {pl t : Addr} {H : Hp} {l : List Str} (h : H t = some (.tup (l.map V.str))) (n : t ≠ pl) : Dp K (hid pl H) (.ref t) (.tuple (sds l)) :=
  .tup (sqt_new (by rw [hid_at n]; exact h)) (dps_strs l)
theorem hid_sqt {K : PySem.W.Frag} {pl t : Addr} {H : Hp} {l : List V} (h : H t = some (.tup l)) (n : t ≠ pl) : SqT K (hid pl H) t l := sqt_new (by rw [hid_at n]; exact h)
/-- a new function kind, laid from its parts -/
theorem lay_fn {K : PySem.W.Frag} {pl sc : Addr} {H : Hp} {tp te t : Addr} {vs : List V} {v : V} {ks : List Kd} {r : Kd} {e : Ef} {n : Nat} (p : Pool pl sc H) (ht : H t = none) (hks : ks.length ≤ 2)
    (h1 : SqT K (hid pl H) tp vs) (d1 : DpAll K (hid pl H) vs (ks.map toD)) (d2 : Dp K (hid pl H) v (toD r)) (h3 : SqT K (hid pl H) te ((effL e).map V.str)) (rk : ∀ x ∈ ks, rank x ≤ n) (rr : rank r ≤ n) :
    ∃ k, Kv K pl (upd H t (.tup [.str "fun", .ref tp, v, .ref te])) (.ref t) k ∧ isFn k = true ∧ rank k ≤ n + 1 := by
  obtain ⟨k, e1, e2, e3⟩ := mk_fn e r ks hks
  refine ⟨k, ?_, e2, e3 n rk rr⟩
  have nt := p.ne ht
  have s : Same (hid pl H) (hid pl (upd H t (.tup [.str "fun", .ref tp, v, .ref te]))) := by rw [hid_upd nt]; exact Same.one (hid_none ht)
  unfold Kv
  rw [e1]
  refine .tup (hid_sqt upd_same nt) (.cons (.str _) (.cons (.tup (s.sqt h1) (d1.same s)) (.cons (d2.same s) (.cons (.tup (s.sqt h3) (dps_strs _)) .nil))))
section
variable {P : Program} {w : World} {K : PySem.W.Frag} {mg : Str → Option Value} {base : Heap} (T : Txt K mg)
include T
theorem some_step (n : Nat) (G__law_some_kind : FnOk P w K mg base CX0 (n + 4) (He.ga K "_law_some_kind") T.d__law_some_kind ["pool", "deep"] (spSome K n)) :
    FnOk P w K mg base CX0 (n + 5) (He.ga K "_law_some_kind") T.d__law_some_kind ["pool", "deep"] (spSome K (n + 1)) := by
  have G__law_draw := ok_draw (P := P) (w := w) (base := base) T
  have G__law_pick := ok_pick (P := P) (w := w) (base := base) T
  have G__law_effects := ok_effects (P := P) (w := w) (base := base) T
  refine T.F__law_some_kind.ok sc_law_some_kind (fun vs H Q E h => ?_) (fun cdv A outer s H vs Q E hr h => ?_)
  · obtain ⟨a, sc, m, rfl, _⟩ := h; rfl
  · obtain ⟨pl, sc, m, rfl, hm, hp, q⟩ := h
    refine ⟨_, PSs.nox (pss_cons (ps_set (i := 2) sc_law_some_kind.nd rfl (.inl rfl) (pe_call G__law_draw (hr.mono (by omega)) (by rfl) T.g__law_draw T.F__law_draw.kp T.b__law_draw .nil pass0 (pa_cons (pv 0) (pa_cons pe_int pa_nil))))
    (pss_cons (ps_if (PW.pt (pw_or (pt_cmpR op_eq (pv 1) pe_int (nomark _)) (pw_or1 (pt_cmpR op_lt (pv 2) pe_int (nomark _)))))
    (pss_one (ps_ret (pe_call G__law_pick (hr.mono (by omega)) (by rfl) T.g__law_pick T.F__law_pick.kp T.b__law_pick .nil pass0 (pa_cons (pv 0) (pa_cons (pe_lst (pa_cons (pe_tup (pa_cons pe_str pa_nil)) (pa_cons (pe_tup (pa_cons pe_str pa_nil)) (pa_cons (pe_tup (pa_cons pe_str pa_nil)) (pa_cons (pe_tup (pa_cons pe_str (pa_cons pe_str (pa_cons pe_str pa_nil)))) pa_nil))))) pa_nil)))))
    pss_nil)
    (pss_cons (ps_if (pt_cmpR op_eq (pv 2) pe_int (nomark _))
    (pss_one (ps_ret (pe_tup (pa_cons pe_str (pa_cons (pe_call G__law_some_kind (hr.mono (by omega)) (by rfl) T.g__law_some_kind T.F__law_some_kind.kp T.b__law_some_kind .nil pass0 (pa_cons (pv 0) (pa_cons (pe_op op_sub (pv 1) pe_int) pa_nil))) pa_nil)))))
    pss_nil)
    (pss_cons (ps_set (i := 3) sc_law_some_kind.nd rfl (.inl rfl) (pe_callTy (r := rTupOf K) call_tuple_of (by rfl) T.tuple (by decide +kernel) (pa_cons (pe_lc (own := [("effect", 4)]) (g := gName 4) (by rfl) sc_law_some_kind.nd (pi_tup (pe_call0 G__law_effects (hr.mono (by omega)) (by rfl) T.g__law_effects T.F__law_effects.kp T.b__law_effects .nil pass0)) (blkOk_by (own := [("effect", 4)]) (N := ["pool", "deep", "turn", "effects", "effect", "k"]) (sc := defScope s_law_some_kind) (by decide +kernel)) (fun _ _ _ _ _ => (pg_name (i := 4) sc_law_some_kind.nd rfl (.inl rfl))) (fun _ _ _ _ _ => pts_one (pt_cmpR op_eq (pe_call G__law_draw (hr.mono (by omega)) (by rfl) T.g__law_draw T.F__law_draw.kp T.b__law_draw .nil pass0 (pa_cons (pv 0) (pa_cons pe_int pa_nil))) pe_int (nomark _))) (fun _ _ _ _ _ => (pv 4))) pa_nil)))
    (pss_one (ps_ret (pe_tup (pa_cons pe_str (pa_cons (pe_callTy (r := rTupOf K) call_tuple_of (by rfl) T.tuple (by decide +kernel) (pa_cons (pe_lc (own := [("k", 5)]) (g := gName 5) (tt := tYes) (by rfl) sc_law_some_kind.nd (pi_range1 (by rfl) T.range (pa_cons (pe_call G__law_draw (hr.mono (by omega)) (by rfl) T.g__law_draw T.F__law_draw.kp T.b__law_draw .nil pass0 (pa_cons (pv 0) (pa_cons pe_int pa_nil))) pa_nil)) (blkOk_by (own := [("k", 5)]) (N := ["pool", "deep", "turn", "effects", "effect", "k"]) (sc := defScope s_law_some_kind) (by decide +kernel)) (fun _ _ _ _ _ => (pg_name (i := 5) sc_law_some_kind.nd rfl (.inl rfl))) (fun _ _ _ _ _ => pts_nil) (fun _ _ _ _ _ => (pe_call G__law_some_kind (hr.mono (by omega)) (by rfl) T.g__law_some_kind T.F__law_some_kind.kp T.b__law_some_kind .nil pass0 (pa_cons (pv 0) (pa_cons (pe_op op_sub (pv 1) pe_int) pa_nil))))) pa_nil)) (pa_cons (pe_call G__law_some_kind (hr.mono (by omega)) (by rfl) T.g__law_some_kind T.F__law_some_kind.kp T.b__law_some_kind .nil pass0 (pa_cons (pv 0) (pa_cons (pe_op op_sub (pv 1) pe_int) pa_nil))) (pa_cons (pv 3) pa_nil))))))))))), ?_⟩
    refine ⟨_, rfl, pl, sc, 8, rfl, hp, by decide, by decide, fun H1 r b1 p1 hr1 => ?_⟩
    refine ⟨_, rfl, rfl, _, rfl, ?_⟩
    rw [m_int]
    refine ite2 (fun h1 => ?_) (fun h1 => ?_)
    · refine ⟨_, rfl, (by show 1 ≤ sizeLine; decide), fun t1 ht1 => ⟨(by show 1 ≤ sizeLine; decide), fun t2 ht2 => ⟨(by show 1 ≤ sizeLine; decide), fun t3 ht3 => ⟨(by show 3 ≤ sizeLine; decide), fun t4 ht4 => ⟨(by show 4 ≤ sizeLine; decide), fun l hl => ?_⟩⟩⟩⟩⟩
      have n1 := p1.ne ht1
      have s1 : Same H1 (upd H1 t1 (.tup [.str "int"])) := Same.one ht1
      have s2 : Same (upd H1 t1 (.tup [.str "int"])) _ := Same.one (o := .tup [.str "bool"]) ht2
      have s3 : Same _ _ := Same.one (o := .tup [.str "unit"]) ht3
      have s4 : Same _ _ := Same.one (o := .tup [.str "named", .str "main", .str "tree"]) ht4
      have s5 : Same _ _ := Same.one (o := .lst [.ref t1, .ref t2, .ref t3, .ref t4]) hl
      have e1 := s5 _ _ (s4 _ _ (s3 _ _ (s2 t1 _ upd_same)))
      have e2 := s5 _ _ (s4 _ _ (s3 t2 _ upd_same))
      have e3 := s5 _ _ (s4 t3 _ upd_same)
      have e4 := s5 t4 _ upd_same
      have pp1 := p1.same s1
      have n2 := pp1.ne ht2
      have pp2 := pp1.same s2
      have n3 := pp2.ne ht3
      have pp3 := pp2.same s3
      have n4 := pp3.ne ht4
      have pp4 := pp3.same s4
      have n5 := pp4.ne hl
      have pp5 := pp4.same s5
      have sA := (((s1.trans s2).trans s3).trans s4).trans s5
      refine ⟨pl, sc, l, [.ref t1, .ref t2, .ref t3, .ref t4], rfl, pp5, sql_new (by rw [hid_at n5]; exact upd_same), by simp, by simp, fun H' v b p hv => ?_⟩
      have bb := (b1.trans (sA.but pl)).trans b
      have fin : ∀ k, Dp K (hid pl _) v (toD k) → rank k = 0 → Q v H' := fun k d rk => q H' v k bb p (Dp.same d b) (by omega)
      simp only [List.mem_cons, List.not_mem_nil, or_false] at hv
      rcases hv with rfl | rfl | rfl | rfl
      · exact fin .int (dp_leaf (l := ["int"]) e1 n1) rfl
      · exact fin .bool (dp_leaf (l := ["bool"]) e2 n2) rfl
      · exact fin .unit (dp_leaf (l := ["unit"]) e3 n3) rfl
      · exact fin .named (dp_leaf (l := ["named", "main", "tree"]) e4 n4) rfl
    refine ⟨_, rfl, _, _, rfl, rfl, _, rfl, ?_⟩
    refine ite2 (fun h2 => ?_) (fun h2 => ?_)
    · refine ⟨_, rfl, (by show 1 ≤ sizeLine; decide), fun t1 ht1 => ⟨(by show 1 ≤ sizeLine; decide), fun t2 ht2 => ⟨(by show 1 ≤ sizeLine; decide), fun t3 ht3 => ⟨(by show 3 ≤ sizeLine; decide), fun t4 ht4 => ⟨(by show 4 ≤ sizeLine; decide), fun l hl => ?_⟩⟩⟩⟩⟩
      have n1 := p1.ne ht1
      have s1 : Same H1 (upd H1 t1 (.tup [.str "int"])) := Same.one ht1
      have s2 : Same (upd H1 t1 (.tup [.str "int"])) _ := Same.one (o := .tup [.str "bool"]) ht2
      have s3 : Same _ _ := Same.one (o := .tup [.str "unit"]) ht3
      have s4 : Same _ _ := Same.one (o := .tup [.str "named", .str "main", .str "tree"]) ht4
      have s5 : Same _ _ := Same.one (o := .lst [.ref t1, .ref t2, .ref t3, .ref t4]) hl
      have e1 := s5 _ _ (s4 _ _ (s3 _ _ (s2 t1 _ upd_same)))
      have e2 := s5 _ _ (s4 _ _ (s3 t2 _ upd_same))
      have e3 := s5 _ _ (s4 t3 _ upd_same)
      have e4 := s5 t4 _ upd_same
      have pp1 := p1.same s1
      have n2 := pp1.ne ht2
      have pp2 := pp1.same s2
      have n3 := pp2.ne ht3
      have pp3 := pp2.same s3
      have n4 := pp3.ne ht4
      have pp4 := pp3.same s4
      have n5 := pp4.ne hl
      have pp5 := pp4.same s5
      have sA := (((s1.trans s2).trans s3).trans s4).trans s5
      refine ⟨pl, sc, l, [.ref t1, .ref t2, .ref t3, .ref t4], rfl, pp5, sql_new (by rw [hid_at n5]; exact upd_same), by simp, by simp, fun H' v b p hv => ?_⟩
      have bb := (b1.trans (sA.but pl)).trans b
      have fin : ∀ k, Dp K (hid pl _) v (toD k) → rank k = 0 → Q v H' := fun k d rk => q H' v k bb p (Dp.same d b) (by omega)
      simp only [List.mem_cons, List.not_mem_nil, or_false] at hv
      rcases hv with rfl | rfl | rfl | rfl
      · exact fin .int (dp_leaf (l := ["int"]) e1 n1) rfl
      · exact fin .bool (dp_leaf (l := ["bool"]) e2 n2) rfl
      · exact fin .unit (dp_leaf (l := ["unit"]) e3 n3) rfl
      · exact fin .named (dp_leaf (l := ["named", "main", "tree"]) e4 n4) rfl
    obtain ⟨m, rfl⟩ : ∃ j, m = j + 1 := ⟨m - 1, by have : ¬ m = 0 := fun e => h1 (decide_eq_true e); omega⟩
    have em : ((m + 1 : Nat) : Int) - 1 = (m : Nat) := by omega
    refine ⟨_, rfl, rfl, _, rfl, ?_⟩
    refine ite2 (fun h3 => ?_) (fun h3 => ?_)
    · refine ⟨_, rfl, _, rfl, _, _, rfl, rfl, pl, sc, m, vem em, by omega, p1, fun H2 v k b2 p2 kv rk => ?_⟩
      refine ⟨(by show 2 ≤ sizeLine; decide), fun t ht => ?_⟩
      have nt := p2.ne ht
      have s2 : Same (hid pl H2) (hid pl (upd H2 t (.tup [.str "array", v]))) := by rw [hid_upd nt]; exact Same.one (hid_none ht)
      refine q _ _ (.arr k) ((b1.trans b2).trans s2) (p2.upd nt (p2.nes ht)) ?_ (by simp only [rank]; omega)
      exact .tup (hid_sqt upd_same nt) (.cons (.str _) (.cons (Dp.same kv s2) .nil))
    refine ⟨rfl, fun c hc => ?_⟩
    have nc := p1.ne hc
    have sc1 : Same H1 (upd H1 c (.tup (effs.map V.str))) := Same.one hc
    have pc := p1.same sc1
    have bc : But pl H1 (upd H1 c (.tup (effs.map V.str))) := sc1.but pl
    have hcc : (upd H1 c (.tup (effs.map V.str))) c = some (.tup (effs.map V.str)) := upd_same
    refine ⟨c, rfl, ⟨_, sqt_new hcc⟩, fun D hD => ?_⟩
    refine lc_tup (K := K) (a := c) (xs := effs.map V.str) (EfC pl sc _ D) (EfC.zero pc hD) (fun i H3 _ hP => sqt_new (hP.1.at hcc nc)) (fun i x H3 hi hP => ?_) (fun H3 hP => ?_)
    · rw [List.getElem?_map] at hi
      obtain ⟨y, hy, rfl⟩ := Option.map_eq_some_iff.mp hi
      refine ⟨rfl, _, rfl, pl, sc, 2, rfl, hP.2.1, by decide, by decide, fun H4 r4 b4 p4 _ => ⟨rfl, _, rfl, ?_⟩⟩
      refine ite2 (fun _ => ?_) (fun _ => ?_)
      · exact ⟨_, rfl, hP.yes pc hD hy b4 p4⟩
      · exact hP.no pc hD hy b4 p4
    · obtain ⟨b3, p3, e, he⟩ := hP.end
      refine ⟨D, _, rfl, .inl ⟨sql_new he, fun te hte => ?_⟩⟩
      have nte := p3.ne hte
      have s4 : Same H3 (upd H3 te (.tup ((effL e).map V.str))) := Same.one hte
      have p4 := p3.same s4
      have b4 := ((b1.trans bc).trans b3).trans (s4.but pl)
      have te4 : SqT K (hid pl (upd H3 te (.tup ((effL e).map V.str)))) te ((effL e).map V.str) := hid_sqt upd_same nte
      refine ⟨_, rfl, pl, sc, 3, rfl, p4, by decide, by decide, fun H5 r5 b5 p5 hr5 => ?_⟩
      refine ⟨(r5 : Nat), rfl, by omega, by omega, fun D2 hD2 => ?_⟩
      refine lc_range (lo := 0) (n := r5) (KdC K pl sc m H5 D2) (KdC.zero p5 hD2) (fun i H6 hi hP6 => ?_) (fun H6 hP6 => ?_)
      · refine ⟨rfl, _, rfl, _, rfl, _, _, rfl, rfl, pl, sc, m, vem em, by omega, hP6.2.1, fun H7 v k b7 p7 kv rk => ?_⟩
        exact hP6.yes p5 hD2 b7 p7 kv rk (by omega)
      · obtain ⟨b6, p6, vs, ks, hv, hkl, hd, hrk⟩ := hP6
        refine ⟨D2, _, rfl, .inl ⟨sql_new hv, fun tp htp => ?_⟩⟩
        have ntp := p6.ne htp
        have s7 : Same H6 (upd H6 tp (.tup vs)) := Same.one htp
        have p7 := p6.same s7
        have tp7 : SqT K (hid pl (upd H6 tp (.tup vs))) tp vs := hid_sqt upd_same ntp
        refine ⟨_, rfl, _, rfl, _, _, rfl, rfl, pl, sc, m, vem em, by omega, p7, fun H8 v k b8 p8 kv rk => ?_⟩
        refine ⟨_, rfl, (by show 4 ≤ sizeLine; decide), fun t ht => ?_⟩
        have b68 : But pl H6 H8 := But.trans (s7.but pl) b8
        have b48 := (b5.trans b6).trans b68
        obtain ⟨k', kv', _, rk'⟩ := lay_fn (e := e) (n := m) p8 ht (by omega) (Same.sqt b8 tp7) (DpAll.same hd b68) kv (Same.sqt b48 te4) hrk rk
        have nt := p8.ne ht
        exact q _ _ k' ((b4.trans b48).trans ((Same.one ht).but pl)) (p8.same (Same.one ht)) kv' rk'
end
end K01

set_option Elab.async false
set_option linter.all false
set_option maxRecDepth 100000
set_option maxHeartbeats 4000000
namespace K01
open PySem PySem.Spec PyProof.Rows L2
theorem tag_arr {k : Kd} (h : tag k = "array") : ∃ k0, k = .arr k0 := by
  cases k with
  | arr k => exact ⟨k, rfl⟩
  | int => exact absurd h (by decide +kernel)
  | bool => exact absurd h (by decide +kernel)
  | unit => exact absurd h (by decide +kernel)
  | named => exact absurd h (by decide +kernel)
  | never => exact absurd h (by decide +kernel)
  | fn0 e r => exact absurd h (by show ¬ (Str.ofString "fun" = Str.ofString "array"); decide +kernel)
  | fn1 e p r => exact absurd h (by show ¬ (Str.ofString "fun" = Str.ofString "array"); decide +kernel)
  | fn2 e p q r => exact absurd h (by show ¬ (Str.ofString "fun" = Str.ofString "array"); decide +kernel)
section
variable {P : Program} {w : World} {K : PySem.W.Frag} {mg : Str → Option Value} {base : Heap} (T : Txt K mg)
include T
theorem ok_some : ∀ n, FnOk P w K mg base CX0 (n + 4) (He.ga K "_law_some_kind") T.d__law_some_kind ["pool", "deep"] (spSome K n)
  | 0 => by
    refine T.F__law_some_kind.ok sc_law_some_kind (fun vs H Q E h => ?_) (fun cdv A outer s H vs Q E hr h => ?_)
    · obtain ⟨a, sc, m, rfl, _⟩ := h; rfl
    · obtain ⟨a, sc, m, _, hm, _⟩ := h; exact absurd hm (by omega)
  | n + 1 => some_step T n (ok_some n)
theorem near_step (n : Nat) (G__law_near : FnOk P w K mg base CX0 (n + 3) (He.ga K "_law_near") T.d__law_near ["pool", "kind"] (spNear K n)) :
    FnOk P w K mg base CX0 (n + 4) (He.ga K "_law_near") T.d__law_near ["pool", "kind"] (spNear K (n + 1)) := by
  have G__law_draw := ok_draw (P := P) (w := w) (base := base) T
  have G__law_effects := ok_effects (P := P) (w := w) (base := base) T
  refine T.F__law_near.ok sc_law_near (fun vs H Q E h => ?_) (fun cdv A outer s H vs Q E hr h => ?_)
  · obtain ⟨a, sc, v, k, rfl, _⟩ := h; rfl
  · obtain ⟨pl, sc, v, k, rfl, hk, hp, kv, q⟩ := h
    refine ⟨_, PSs.nox (pss_cons (ps_if (pt_cmpR op_ne (pe_ix (r := rIxT K) ix_tup (pv 1) pe_int (fun _ _ => rfl)) pe_str (nomark _))
    (pss_one (ps_ret (pe_ifExp (pt_cmpR op_ne (pe_ix (r := rIxT K) ix_tup (pv 1) pe_int (fun _ _ => rfl)) pe_str (nomark _)) (pv 1) (pe_tup (pa_cons pe_str (pa_cons (pe_call G__law_near (hr.mono (by omega)) (by rfl) T.g__law_near T.F__law_near.kp T.b__law_near .nil pass0 (pa_cons (pv 0) (pa_cons (pe_ix (r := rIxT K) ix_tup (pv 1) pe_int (fun _ _ => rfl)) pa_nil))) pa_nil))))))
    pss_nil)
    (pss_cons (ps_set (i := 2) sc_law_near.nd rfl (.inl rfl) (pe_callTy (r := rTupOf K) call_tuple_of (by rfl) T.tuple (by decide +kernel) (pa_cons (pe_lc (own := [("effect", 3)]) (g := gName 3) (by rfl) sc_law_near.nd (pi_tup (pe_call0 G__law_effects (hr.mono (by omega)) (by rfl) T.g__law_effects T.F__law_effects.kp T.b__law_effects .nil pass0)) (blkOk_by (own := [("effect", 3)]) (N := ["pool", "kind", "effects", "effect", "one"]) (sc := defScope s_law_near) (by decide +kernel)) (fun _ _ _ _ _ => (pg_name (i := 3) sc_law_near.nd rfl (.inl rfl))) (fun _ _ _ _ _ => pts_one (pt_cmpR op_ne (pe_cmpR (r := rIn K false) op_in_seq (pv 3) (pe_ix (r := rIxT K) ix_tup (pv 1) pe_int (fun _ _ => rfl)) (by rfl)) (pe_cmpR op_eq (pe_call G__law_draw (hr.mono (by omega)) (by rfl) T.g__law_draw T.F__law_draw.kp T.b__law_draw .nil pass0 (pa_cons (pv 0) (pa_cons pe_int pa_nil))) pe_int (nomark _)) (nomark _))) (fun _ _ _ _ _ => (pv 3))) pa_nil)))
    (pss_one (ps_ret (pe_tup (pa_cons pe_str (pa_cons (pe_callTy (r := rTupOf K) call_tuple_of (by rfl) T.tuple (by decide +kernel) (pa_cons (pe_lc (own := [("one", 4)]) (g := gName 4) (tt := tYes) (by rfl) sc_law_near.nd (pi_tup (pe_ix (r := rIxT K) ix_tup (pv 1) pe_int (fun _ _ => rfl))) (blkOk_by (own := [("one", 4)]) (N := ["pool", "kind", "effects", "effect", "one"]) (sc := defScope s_law_near) (by decide +kernel)) (fun _ _ _ _ _ => (pg_name (i := 4) sc_law_near.nd rfl (.inl rfl))) (fun _ _ _ _ _ => pts_nil) (fun _ _ _ _ _ => (pe_call G__law_near (hr.mono (by omega)) (by rfl) T.g__law_near T.F__law_near.kp T.b__law_near .nil pass0 (pa_cons (pv 0) (pa_cons (pv 4) pa_nil))))) pa_nil)) (pa_cons (pe_call G__law_near (hr.mono (by omega)) (by rfl) T.g__law_near T.F__law_near.kp T.b__law_near .nil pass0 (pa_cons (pv 0) (pa_cons (pe_ix (r := rIxT K) ix_tup (pv 1) pe_int (fun _ _ => rfl)) pa_nil))) (pa_cons (pv 2) pa_nil))))))))), ?_⟩
    obtain ⟨a, xr, rfl, s1, _⟩ := kd_any kv.dp
    refine ⟨_, rfl, a, _, _, _, rfl, rfl, s1, at_v (n := 0) rfl rfl, rfl, _, rfl, ?_⟩
    rw [dS, ctag]
    by_cases f1 : isFn k = true
    rotate_left
    · rw [eq_false_of_ne_true f1]
      refine iteT ⟨_, rfl, a, _, _, _, rfl, rfl, s1, at_v (n := 0) rfl rfl, rfl, _, rfl, ?_⟩
      rw [dS]
      refine ite2 (fun _ => ?_) (fun h => ?_)
      · exact ⟨_, rfl, q H _ k (But.refl pl H) hp kv (Nat.le_refl _)⟩
      · have ht : tag k = "array" := by
          have h := eq_false_of_ne_true h
          rw [Bool.not_eq_false'] at h
          exact of_decide_eq_true h
        obtain ⟨k0, rfl⟩ := tag_arr ht
        cases kv with
        | tup t1 t2 =>
        cases t2 with
        | cons t2 t3 =>
        cases t2
        cases t3 with
        | cons t3 t4 =>
        cases t4
        refine ⟨_, rfl, _, rfl, a, _, _, _, rfl, rfl, (hid_le pl H).sqt t1, at_v (n := 1) rfl rfl, pl, sc, _, k0, rfl, (by simp only [rank] at hk; omega), hp, t3, fun H2 v' k' b2 p2 kv' rk' => ?_⟩
        refine ⟨(by show 2 ≤ sizeLine; decide), fun t ht => ?_⟩
        have nt := p2.ne ht
        have s2 : Same (hid pl H2) (hid pl (upd H2 t (.tup [.str "array", v']))) := by rw [hid_upd nt]; exact Same.one (hid_none ht)
        refine q _ _ (.arr k') (b2.trans s2) (p2.upd nt (p2.nes ht)) ?_ (by simp only [rank]; omega)
        exact .tup (hid_sqt upd_same nt) (.cons (.str _) (.cons (Dp.same kv' s2) .nil))
    rw [f1]
    obtain ⟨_, pa, xp, r, ea, e, t1, pt, dp, dr, de⟩ := kd_fn (H := hid pl H) kv f1
    cases e
    have l1 := dp.len
    rw [List.length_map] at l1
    have hps := ps_le k
    have hrr := res_rank f1
    have atH : ∀ {H' : Hp}, But pl H H' → ∀ {b : Addr} {l : List V}, SqT K (hid pl H) b l → SqT K H' b l := fun bb _ _ h => (hid_le pl _).sqt (L2.Same.sqt bb h)
    refine iteF ?_
    refine ⟨rfl, fun c hc => ?_⟩
    have nc := hp.ne hc
    have sc1 : Same H (upd H c (.tup (effs.map V.str))) := Same.one hc
    have pc := hp.same sc1
    have bc : But pl H (upd H c (.tup (effs.map V.str))) := sc1.but pl
    have hcc : (upd H c (.tup (effs.map V.str))) c = some (.tup (effs.map V.str)) := upd_same
    refine ⟨c, rfl, ⟨_, sqt_new hcc⟩, fun D hD => ?_⟩
    refine lc_tup (K := K) (a := c) (xs := effs.map V.str) (EfC pl sc _ D) (EfC.zero pc hD) (fun i H3 _ hP => sqt_new (hP.1.at hcc nc)) (fun i x H3 hi hP => ?_) (fun H3 hP => ?_)
    · rw [List.getElem?_map] at hi
      obtain ⟨y, hy, rfl⟩ := Option.map_eq_some_iff.mp hi
      have b3 := bc.trans hP.1
      refine ⟨rfl, _, rfl, _, rfl, a, _, _, _, rfl, rfl, atH b3 t1, at_v (n := 3) rfl rfl, ea, _, rfl, .inr (atH b3 de), rfl, flat_S _, ?_⟩
      refine ⟨_, rfl, pl, sc, 5, rfl, hP.2.1, by decide, by decide, fun H4 r4 b4 p4 _ => ⟨rfl, rfl, _, rfl, ?_⟩⟩
      refine ite2 (fun _ => ?_) (fun _ => ?_)
      · exact ⟨_, rfl, hP.yes pc hD hy b4 p4⟩
      · exact hP.no pc hD hy b4 p4
    · obtain ⟨b3, p3, e, he⟩ := hP.end
      refine ⟨D, _, rfl, .inl ⟨sql_new he, fun te hte => ?_⟩⟩
      have nte := p3.ne hte
      have s4 : Same H3 (upd H3 te (.tup ((effL e).map V.str))) := Same.one hte
      have p4 := p3.same s4
      have b4 : But pl H _ := (bc.trans b3).trans (s4.but pl)
      have te4 : SqT K (hid pl (upd H3 te (.tup ((effL e).map V.str)))) te ((effL e).map V.str) := hid_sqt upd_same nte
      refine ⟨_, rfl, a, _, _, _, rfl, rfl, atH b4 t1, at_v (n := 1) rfl rfl, pa, rfl, ⟨_, atH b4 pt⟩, fun D2 hD2 => ?_⟩
      refine lc_tup (K := K) (a := pa) (xs := xp) (KdC K pl sc (rank k - 1) _ D2) (KdC.zero p4 hD2) (fun i H6 _ hP6 => atH (b4.trans hP6.1) pt) (fun i x H6 hi hP6 => ?_) (fun H6 hP6 => ?_)
      · obtain ⟨d1, hd1, kx⟩ := dp.at hi
        rw [List.getElem?_map] at hd1
        obtain ⟨k1, hk1, rfl⟩ := Option.map_eq_some_iff.mp hd1
        have rk1 := ps_rank (List.mem_of_getElem? hk1)
        refine ⟨rfl, _, rfl, _, rfl, pl, sc, x, k1, rfl, by omega, hP6.2.1, Dp.same kx (b4.trans hP6.1), fun H7 v' k' b7 p7 kv' rk' => ?_⟩
        have hi' := (List.getElem?_eq_some_iff.mp hi).1
        exact hP6.yes p4 hD2 b7 p7 kv' (by omega) (by omega)
      · obtain ⟨b6, p6, vs, ks, hv, hkl, hd, hrk⟩ := hP6
        refine ⟨D2, _, rfl, .inl ⟨sql_new hv, fun tp htp => ?_⟩⟩
        have ntp := p6.ne htp
        have s7 : Same H6 (upd H6 tp (.tup vs)) := Same.one htp
        have p7 := p6.same s7
        have b7 : But pl H _ := (b4.trans b6).trans (s7.but pl)
        have tp7 : SqT K (hid pl (upd H6 tp (.tup vs))) tp vs := hid_sqt upd_same ntp
        refine ⟨_, rfl, _, rfl, a, _, _, _, rfl, rfl, atH b7 t1, at_v (n := 2) rfl rfl, pl, sc, r, res k, rfl, by omega, p7, Dp.same dr b7, fun H8 v' k' b8 p8 kv' rk' => ?_⟩
        refine ⟨_, rfl, (by show 4 ≤ sizeLine; decide), fun t ht => ?_⟩
        have b68 : But pl H6 H8 := But.trans (s7.but pl) b8
        have b48 := b6.trans b68
        obtain ⟨k'', kv'', _, rk''⟩ := lay_fn (e := e) (n := rank k - 1) p8 ht (by omega) (Same.sqt b8 tp7) (DpAll.same hd b68) kv' (Same.sqt b48 te4) hrk (by omega)
        exact q _ _ k'' ((b4.trans b48).trans ((Same.one ht).but pl)) (p8.same (Same.one ht)) kv'' (by omega)
theorem ok_near : ∀ n, FnOk P w K mg base CX0 (n + 3) (He.ga K "_law_near") T.d__law_near ["pool", "kind"] (spNear K n)
  | 0 => by
    refine T.F__law_near.ok sc_law_near (fun vs H Q E h => ?_) (fun cdv A outer s H vs Q E hr h => ?_)
    · obtain ⟨a, sc, v, k, rfl, _⟩ := h; rfl
    · obtain ⟨a, sc, v, k, _, hm, _⟩ := h; exact absurd hm (by omega)
  | n + 1 => near_step T n (ok_near n)
end
end K01

set_option Elab.async false
set_option linter.all false
set_option maxRecDepth 100000
set_option maxHeartbeats 4000000
namespace K01
open PySem PySem.Spec PyProof.Rows L2
/-! heaps without some addresses -/
def hidS (S : List Addr) (H : Hp) : Hp := fun a => if a ∈ S then none else H a
theorem hidS_at {S : List Addr} {a : Addr} {H : Hp} (h : a ∉ S) : hidS S H a = H a := if_neg h
theorem hidS_in {S : List Addr} {a : Addr} {H : Hp} (h : a ∈ S) : hidS S H a = none := if_pos h
theorem hidS_le (S : List Addr) (H : Hp) : Same (hidS S H) H := fun a o h => by
  by_cases e : a ∈ S
  · rw [hidS_in e] at h; cases h
  · rw [hidS_at e] at h; exact h
theorem hidS_sub {S S' : List Addr} (h : ∀ a ∈ S, a ∈ S') (H : Hp) : Same (hidS S' H) (hidS S H) := fun a o q => by
  by_cases e : a ∈ S'
  · rw [hidS_in e] at q; cases q
  · rw [hidS_at e] at q; rw [hidS_at fun z => e (h a z)]; exact q
theorem hidS_same {S : List Addr} {H H' : Hp} (s : Same H H') : Same (hidS S H) (hidS S H') := fun a o q => by
  by_cases e : a ∈ S
  · rw [hidS_in e] at q; cases q
  · rw [hidS_at e] at q ⊢; exact s a o q
theorem hidS_but {S : List Addr} {pl : Addr} {H H' : Hp} (hp : pl ∈ S) (b : But pl H H') : Same (hidS S H) (hidS S H') := fun a o q => by
  by_cases e : a ∈ S
  · rw [hidS_in e] at q; cases q
  · rw [hidS_at e] at q ⊢
    exact b.at q fun z => e (z ▸ hp)
/-- all of S are taken -/
def Occ (S : List Addr) (H : Hp) : Prop := ∀ a ∈ S, ∃ o, H a = some o
theorem Occ.ne {S : List Addr} {H : Hp} (h : Occ S H) {a : Addr} (ha : H a = none) : a ∉ S := fun e => by
  obtain ⟨o, ho⟩ := h a e
  rw [ha] at ho; cases ho
theorem Occ.same {S : List Addr} {H H' : Hp} (h : Occ S H) (s : Same H H') : Occ S H' := fun a e => let ⟨o, ho⟩ := h a e; ⟨o, s a o ho⟩
theorem Occ.but {S : List Addr} {pl sc : Addr} {H H' : Hp} (h : Occ S H) (b : But pl H H') (p : Pool pl sc H') : Occ S H' := fun a e => by
  by_cases z : a = pl
  · subst z
    obtain ⟨_, _, _, _, _, h1, _⟩ := p
    exact ⟨_, h1⟩
  · obtain ⟨o, ho⟩ := h a e
    exact ⟨o, b.at ho z⟩
theorem hidS_upd {S : List Addr} {a : Addr} {H : Hp} {o : HO} (h : a ∉ S) : hidS S (upd H a o) = upd (hidS S H) a o := by
  funext b
  by_cases e : b ∈ S
  · rw [hidS_in e, upd_ne (fun z : b = a => h (z ▸ e)), hidS_in e]
  · rw [hidS_at e]
    by_cases e2 : b = a
    · subst e2; rw [upd_same, upd_same]
    · rw [upd_ne e2, upd_ne e2, hidS_at e]
theorem hidS_none {S : List Addr} {a : Addr} {H : Hp} (h : H a = none) : hidS S H a = none := by
  by_cases e : a ∈ S
  · exact hidS_in e
  · rw [hidS_at e]; exact h
theorem hidS_new {S : List Addr} {a : Addr} {H : Hp} {o : HO} (h : H a = none) : Same (hidS S H) (hidS S (upd H a o)) := hidS_same (Same.one h)
/-- texts and tuples alone stand where only lists are hidden -/
theorem sqt_hidS {K : PySem.W.Frag} {G : Hp} {S : List Addr} {a : Addr} {xs : List V} (h : SqT K G a xs) (hS : ∀ b ∈ S, G b = none ∨ ∃ l, G b = some (.lst l)) : SqT K (hidS S G) a xs := by
  have key : ∀ o, G a = some o → (∀ l, o ≠ .lst l) → a ∉ S := fun o ho hn e => by
    rcases hS a e with z | ⟨l, z⟩
    · rw [ho] at z; cases z
    · rw [ho] at z; cases z; exact hn l rfl
  rcases h with (h | ⟨b, h⟩) | h
  · exact .inl (.inl (by rw [hidS_at (key _ h fun l z => by cases z)]; exact h))
  · exact .inl (.inr ⟨b, by rw [hidS_at (key _ h fun l z => by cases z)]; exact h⟩)
  · exact .inr h
mutual
theorem dp_hidS {K : PySem.W.Frag} {G : Hp} {S : List Addr} (hS : ∀ b ∈ S, G b = none ∨ ∃ l, G b = some (.lst l)) : ∀ (d : PyData) (v : V), Dp K G v d → NoL d → Dp K (hidS S G) v d
  | .none, _, _, n => by cases n
  | .bool _, _, _, n => by cases n
  | .int _, _, _, n => by cases n
  | .str x, _, h, _ => by cases h; exact .str x
  | .list _, _, _, n => by cases n
  | .dict _, _, _, n => by cases n
  | .tuple ds, _, h, n => by cases h with | tup hs ha => exact .tup (sqt_hidS hs hS) (dps_hidS hS ds _ ha n.inn)
theorem dps_hidS {K : PySem.W.Frag} {G : Hp} {S : List Addr} (hS : ∀ b ∈ S, G b = none ∨ ∃ l, G b = some (.lst l)) : ∀ (ds : List PyData) (vs : List V), DpAll K G vs ds → (∀ d ∈ ds, NoL d) → DpAll K (hidS S G) vs ds
  | [], _, h, _ => by cases h; exact .nil
  | d :: ds, _, h, n => by
    cases h with
    | cons h1 h2 => exact .cons (dp_hidS hS d _ h1 (n d List.mem_cons_self)) (dps_hidS hS ds _ h2 fun e he => n e (List.mem_cons_of_mem _ he))
end
/-- texts and tuples, so deep, and small -/
inductive Tv : Nat → PyData → Prop where
  | str {n : Nat} {x : Str} (h : x.length ≤ 20) (o : PyData.strOk x = true) : Tv n (.str x)
  | tup {n : Nat} {ds : List PyData} (l : ds.length ≤ 10) (h : ∀ d ∈ ds, Tv n d) : Tv (n + 1) (.tuple ds)
theorem Tv.noL : ∀ {n : Nat} {d : PyData}, Tv n d → NoL d
  | _, _, .str _ _ => .str _
  | _, _, .tup _ h => .tup fun d hd => Tv.noL (h d hd)
theorem Tv.sml : ∀ {n : Nat} {d : PyData}, Tv n d → Sml d
  | _, _, .str h o => .str (by omega) o
  | _, _, .tup l h => .tup (by omega) fun d hd => Tv.sml (h d hd)
theorem Tv.up : ∀ {n : Nat} {d : PyData} (m : Nat), Tv n d → n ≤ m → Tv m d
  | _, _, _, .str h o, _ => .str h o
  | _, _, 0, .tup l h, e => absurd e (by omega)
  | _, _, m + 1, .tup l h, e => .tup l fun d hd => Tv.up m (h d hd) (by omega)
theorem tv_sds : ∀ {n : Nat} {l : List Str}, l.length ≤ 10 → (∀ x ∈ l, x.length ≤ 20 ∧ PyData.strOk x = true) → Tv (n + 1) (.tuple (sds l)) := fun hl h => .tup (by unfold sds; rw [List.length_map]; exact hl) fun d hd => by
  obtain ⟨x, hx, rfl⟩ := List.mem_map.mp hd
  exact .str (h x hx).1 (h x hx).2
theorem eff_ok (e : Ef) : ∀ x ∈ effL e, x.length ≤ 20 ∧ PyData.strOk x = true := by
  have g : ∀ e : Ef, ((effL e).all fun x => decide (x.length ≤ 20) && PyData.strOk x) = true := by
    rintro ⟨a, b, c, d⟩
    cases a <;> cases b <;> cases c <;> cases d <;> decide +kernel
  intro x hx
  have := List.all_eq_true.mp (g e) x hx
  rw [Bool.and_eq_true, decide_eq_true_eq] at this
  exact this
theorem tv_tup {n : Nat} {l : List PyData} (hl : l.length ≤ 10) (h : ∀ i, i < l.length → Tv n (l.getD i .none)) : Tv (n + 1) (.tuple l) := .tup hl fun d hd => by
  obtain ⟨i, hi, e⟩ := List.getElem_of_mem hd
  have := h i hi
  rw [List.getD_eq_getElem?_getD, List.getElem?_eq_getElem hi] at this
  rw [← e]; exact this
theorem tv_fn {n : Nat} {p : List PyData} {r : PyData} (e : Ef) (hp : Tv (n + 1) (.tuple p)) (hr : Tv (n + 1) r) : Tv (n + 2) (.tuple [.str "fun", .tuple p, r, .tuple (sds (effL e))]) := tv_tup (by simp) fun i hi => by
  match i, hi with
  | 0, _ => exact .str (by decide +kernel) (by decide +kernel)
  | 1, _ => exact hp
  | 2, _ => exact hr
  | 3, _ => exact tv_sds (by have := eff_le e; omega) (eff_ok e)
theorem tv_toD (k : Kd) : ∀ n, rank k ≤ n → Tv (2 * n + 2) (toD k) := by
  have lf : ∀ (n : Nat) (l : List Str), l.length ≤ 10 → (l.all fun x => decide (x.length ≤ 20) && PyData.strOk x) = true → Tv (2 * n + 2) (.tuple (sds l)) := fun n l hl h =>
    tv_sds hl fun x hx => by
      have := List.all_eq_true.mp h x hx
      rw [Bool.and_eq_true, decide_eq_true_eq] at this
      exact this
  induction k with
  | arr k ih =>
    intro n hn
    obtain ⟨m, rfl⟩ : ∃ m, n = m + 1 := ⟨n - 1, by simp only [rank] at hn; omega⟩
    have := (ih m (by simp only [rank] at hn; omega)).up (2 * m + 3) (by omega)
    refine tv_tup (n := 2 * (m + 1) + 1) (by simp) fun i hi => ?_
    match i, hi with
    | 0, _ => exact .str (by decide +kernel) (by decide +kernel)
    | 1, _ => exact this
  | fn0 e r ih =>
    intro n hn
    obtain ⟨m, rfl⟩ : ∃ m, n = m + 1 := ⟨n - 1, by simp only [rank] at hn; omega⟩
    have := (ih m (by simp only [rank] at hn; omega)).up (2 * m + 3) (by omega)
    exact tv_fn (n := 2 * m + 2) e (tv_tup (by simp) fun i hi => absurd hi (by simp)) this
  | fn1 e p r ihp ih =>
    intro n hn
    obtain ⟨m, rfl⟩ : ∃ m, n = m + 1 := ⟨n - 1, by simp only [rank] at hn; omega⟩
    have h1 := (ih m (by simp only [rank] at hn; omega)).up (2 * m + 3) (by omega)
    have h2 := ihp m (by simp only [rank] at hn; omega)
    exact tv_fn (n := 2 * m + 2) e (tv_tup (by simp) fun i hi => by
      match i, hi with
      | 0, _ => exact h2) h1
  | fn2 e p q r ihp ihq ih =>
    intro n hn
    obtain ⟨m, rfl⟩ : ∃ m, n = m + 1 := ⟨n - 1, by simp only [rank] at hn; omega⟩
    have h1 := (ih m (by simp only [rank] at hn; omega)).up (2 * m + 3) (by omega)
    have h2 := ihp m (by simp only [rank] at hn; omega)
    have h3 := ihq m (by simp only [rank] at hn; omega)
    exact tv_fn (n := 2 * m + 2) e (tv_tup (by simp) fun i hi => by
      match i, hi with
      | 0, _ => exact h2
      | 1, _ => exact h3) h1
  | named => exact fun n _ => lf n ["named", "main", "tree"] (by simp) (by decide +kernel)
  | int => exact fun n _ => lf n ["int"] (by simp) (by decide +kernel)
  | bool => exact fun n _ => lf n ["bool"] (by simp) (by decide +kernel)
  | unit => exact fun n _ => lf n ["unit"] (by simp) (by decide +kernel)
  | never => exact fun n _ => lf n ["never"] (by simp) (by decide +kernel)
/-! slices and sums of tuples, by their data -/
def cutD (ds : List PyData) (lo hi : Option Int) : List PyData := (ds.drop (HT.sIx ds.length 0 lo)).take (HT.sIx ds.length ds.length hi - HT.sIx ds.length 0 lo)
def rSlD (K : PySem.W.Frag) (S : List Addr) : V → Option Int → Option Int → Hp → VK → Prop := fun x lo hi H Q => ∃ ds, Dp K (hidS S H) x (.tuple ds) ∧ Occ S H ∧ ∀ p H1, Same H H1 → Dp K (hidS S H1) (.ref p) (.tuple (cutD ds lo hi)) → Q (.ref p) H1
def rCatD (K : PySem.W.Frag) (S : List Addr) : R2 := fun x y H Q => ∃ ds es, Dp K (hidS S H) x (.tuple ds) ∧ Dp K (hidS S H) y (.tuple es) ∧ Occ S H ∧ ds.length + es.length ≤ sizeLine ∧ ∀ p H1, Same H H1 → Dp K (hidS S H1) (.ref p) (.tuple (ds ++ es)) → Q (.ref p) H1
theorem sl_tupD {X : Cx} (S : List Addr) : SlR X (rSlD X.K S) := by
  intro pins s σ H x v vl vu lo hi sl Q I rx hs pl pu h
  obtain ⟨ds, hd, oc, q⟩ := h
  obtain ⟨a, xs, rfl, ha, hx⟩ := vx_tup (.inl hd)
  have hl := hx.len
  have hc : DpAll X.K (hidS S H) (cutV xs lo hi) (cutD ds lo hi) := by
    unfold cutV cutD
    rw [hl]
    exact dps_take _ (dps_drop _ hx)
  refine sl_tupA pins s σ H _ v vl vu lo hi sl Q I rx hs pl pu ⟨a, xs, rfl, (hidS_le S H).sqt ha, fun hw => ?_, fun hw p hp => ?_⟩
  · refine q a H (Same.refl H) ?_
    have e : cutD ds lo hi = ds := by
      unfold cutD
      rw [hl] at hw
      rw [hw.1, hw.2]; simp
    rw [e]; exact .tup ha hx
  · have np := oc.ne hp
    refine q p _ (Same.one hp) (.tup (sqt_new (by rw [hidS_at np]; exact upd_same)) (hc.same (hidS_new hp)))
theorem op_catD {X : Cx} (S : List Addr) : OpR X (binaryOp .Add) (rCatD X.K S) := by
  intro pins s σ H x y v u Q I rx ry h
  obtain ⟨ds, es, h1, h2, oc, hz, q⟩ := h
  obtain ⟨a, xs, rfl, ha, hx⟩ := vx_tup (.inl h1)
  obtain ⟨b, ys, rfl, hb, hy⟩ := vx_tup (.inl h2)
  have l1 := hx.len
  have l2 := hy.len
  refine op_catA pins s σ H _ _ v u Q I rx ry ⟨a, b, xs, ys, rfl, rfl, (hidS_le S H).sqt ha, (hidS_le S H).sqt hb, by omega, fun e => ?_, fun e e2 => ?_, fun e e2 p hp => ?_⟩
  · subst e
    cases hx
    exact q b H (Same.refl H) h2
  · subst e2
    cases hy
    refine q a H (Same.refl H) (by rw [List.append_nil]; exact h1)
  · have np := oc.ne hp
    exact q p _ (Same.one hp) (.tup (sqt_new (by rw [hidS_at np]; exact upd_same)) ((hx.app hy).same (hidS_new hp)))
end K01

set_option Elab.async false
set_option linter.all false
set_option maxRecDepth 100000
set_option maxHeartbeats 4000000
namespace K01
open PySem PySem.Spec PyProof.Rows L2
/-- some small data -/
def Xs (K : PySem.W.Frag) (S : List Addr) (H : Hp) (v : V) : Prop := ∃ d, Dp K (hidS S H) v d ∧ Sml d
theorem Xs.same {K : PySem.W.Frag} {S : List Addr} {H H' : Hp} {v : V} (h : Xs K S H v) (s : Same H H') : Xs K S H' v := let ⟨d, a, b⟩ := h; ⟨d, a.same (hidS_same s), b⟩
theorem Xs.but {K : PySem.W.Frag} {S : List Addr} {pl : Addr} {H H' : Hp} {v : V} (h : Xs K S H v) (hp : pl ∈ S) (b : But pl H H') : Xs K S H' v := let ⟨d, a, c⟩ := h; ⟨d, a.same (hidS_but hp b), c⟩
theorem Xs.sub {K : PySem.W.Frag} {S S' : List Addr} {H : Hp} {v : V} (h : Xs K S' H v) (s : ∀ a ∈ S, a ∈ S') : Xs K S H v := let ⟨d, a, b⟩ := h; ⟨d, a.same (hidS_sub s H), b⟩
theorem Xs.updD {K : PySem.W.Frag} {S : List Addr} {H : Hp} {v : V} {D : Addr} {o : HO} (h : Xs K (D :: S) H v) : Xs K (D :: S) (upd H D o) v := by
  obtain ⟨d, a, b⟩ := h
  refine ⟨d, a.same fun x u hx => ?_, b⟩
  by_cases e : x ∈ D :: S
  · rw [hidS_in e] at hx; cases hx
  · rw [hidS_at e] at hx ⊢
    rw [upd_ne (fun z => e (by rw [z]; exact List.mem_cons_self))]; exact hx
theorem xs_all {K : PySem.W.Frag} {S : List Addr} {H : Hp} : ∀ {vs : List V}, (∀ v ∈ vs, Xs K S H v) → ∃ ds, DpAll K (hidS S H) vs ds ∧ ∀ d ∈ ds, Sml d
  | [], _ => ⟨[], .nil, by simp⟩
  | v :: vs, h => by
    obtain ⟨d, a, b⟩ := h v List.mem_cons_self
    obtain ⟨ds, e, f⟩ := xs_all fun w hw => h w (List.mem_cons_of_mem _ hw)
    exact ⟨d :: ds, .cons a e, fun x hx => by
      rcases List.mem_cons.mp hx with z | z
      · subst z; exact b
      · exact f x z⟩
def XsC (K : PySem.W.Frag) (S : List Addr) (H1 : Hp) (D : Addr) (i : Nat) (H : Hp) : Prop := Same H1 H ∧ ∃ vs, H D = some (.lst vs) ∧ vs.length = i ∧ ∀ v ∈ vs, Xs K (D :: S) H v
theorem XsC.zero {K : PySem.W.Frag} {S : List Addr} {H1 : Hp} {D : Addr} (hD : H1 D = none) : XsC K S H1 D 0 (upd H1 D (.lst [])) := ⟨Same.one hD, [], upd_same, rfl, by simp⟩
theorem XsC.yes {K : PySem.W.Frag} {S : List Addr} {H1 H H4 : Hp} {D : Addr} {i : Nat} {y : V} (h : XsC K S H1 D i H) (hD : H1 D = none) (s : Same H H4) (x : Xs K (D :: S) H4 y) (hi : i < 1000) :
    ∃ acc, H4 D = some (.lst acc) ∧ acc.length < sizeLine ∧ XsC K S H1 D (i + 1) (upd H4 D (.lst (acc ++ [y]))) := by
  obtain ⟨a, vs, b, l, c⟩ := h
  refine ⟨vs, s _ _ b, by rw [sizeLine_eq]; omega, (a.trans s).upd_new hD, vs ++ [y], upd_same, by simp [l], fun v hv => ?_⟩
  rcases List.mem_append.mp hv with h | h
  · exact ((c v h).same s).updD
  · simp at h; subst h; exact x.updD
def XbC (K : PySem.W.Frag) (S : List Addr) (pl sc : Addr) (H1 : Hp) (D : Addr) (i : Nat) (H : Hp) : Prop := But pl H1 H ∧ Pool pl sc H ∧ ∃ vs, H D = some (.lst vs) ∧ vs.length = i ∧ ∀ v ∈ vs, Xs K (D :: S) H v
theorem XbC.zero {K : PySem.W.Frag} {S : List Addr} {pl sc : Addr} {H1 : Hp} {D : Addr} (p : Pool pl sc H1) (hD : H1 D = none) : XbC K S pl sc H1 D 0 (upd H1 D (.lst [])) :=
  ⟨(But.refl pl H1).upd_new hD (p.ne hD), p.upd (p.ne hD) (p.nes hD), [], upd_same, rfl, by simp⟩
theorem XbC.yes {K : PySem.W.Frag} {S : List Addr} {pl sc : Addr} {H1 H H4 : Hp} {D : Addr} {i : Nat} {y : V} (h : XbC K S pl sc H1 D i H) (hp : pl ∈ S) (p1 : Pool pl sc H1) (hD : H1 D = none) (s : But pl H H4) (p : Pool pl sc H4) (x : Xs K (D :: S) H4 y) (hi : i < 1000) :
    ∃ acc, H4 D = some (.lst acc) ∧ acc.length < sizeLine ∧ XbC K S pl sc H1 D (i + 1) (upd H4 D (.lst (acc ++ [y]))) := by
  obtain ⟨a, _, vs, b, l, c⟩ := h
  have n := p1.ne hD
  refine ⟨vs, s.at b n, by rw [sizeLine_eq]; omega, (a.trans s).upd_new hD n, p.upd n (p1.nes hD), vs ++ [y], upd_same, by simp [l], fun v hv => ?_⟩
  rcases List.mem_append.mp hv with h | h
  · exact ((c v h).but (List.mem_cons_of_mem _ hp) s).updD
  · simp at h; subst h; exact x.updD
theorem Occ.cons {S : List Addr} {H : Hp} {D : Addr} {o : HO} (h : Occ S H) (e : H D = some o) : Occ (D :: S) H := fun a ha => by
  rcases List.mem_cons.mp ha with z | z
  · subst z; exact ⟨o, e⟩
  · exact h a z
theorem hidS_cons {K : PySem.W.Frag} {S : List Addr} {H : Hp} {D : Addr} {l : List V} {v : V} {d : PyData} (e : H D = some (.lst l)) (h : Dp K (hidS S H) v d) (n : NoL d) : Dp K (hidS (D :: S) H) v d := by
  have k : Dp K (hidS [D] (hidS S H)) v d := dp_hidS (fun b hb => by
    simp at hb; subst hb
    by_cases z : b ∈ S
    · exact .inl (hidS_in z)
    · exact .inr ⟨l, by rw [hidS_at z]; exact e⟩) d v h n
  refine k.same fun a o ho => ?_
  by_cases z : a ∈ ([D] : List Addr)
  · rw [hidS_in z] at ho; cases ho
  · rw [hidS_at z] at ho
    by_cases z2 : a ∈ S
    · rw [hidS_in z2] at ho; cases ho
    · rw [hidS_at z2] at ho
      have z3 : a ∉ D :: S := fun q => by
        rcases List.mem_cons.mp q with q | q
        · exact z (by rw [q]; exact List.mem_cons_self)
        · exact z2 q
      rw [hidS_at z3]; exact ho
theorem Tv.inn {n : Nat} {ds : List PyData} (h : Tv n (.tuple ds)) : ds.length ≤ 10 ∧ ∃ m, n = m + 1 ∧ ∀ d ∈ ds, Tv m d := by
  cases h with | tup l h => exact ⟨l, _, rfl, h⟩
theorem Tv.cases {n : Nat} {d : PyData} (h : Tv n d) : (∃ x, d = .str x ∧ x.length ≤ 20 ∧ PyData.strOk x = true) ∨ ∃ ds, d = .tuple ds := by
  cases h with
  | str a b => exact .inl ⟨_, rfl, a, b⟩
  | tup l h => exact .inr ⟨_, rfl⟩
def spIsInt (K : PySem.W.Frag) : Sp := fun vs H Q _ => ∃ v d, vs = [v] ∧ Vx K H v d ∧ Q (.bl (isInt d && !isBool d)) H
def spBooled (K : PySem.W.Frag) (n : Nat) : Sp := fun vs H Q _ => ∃ (S : List Addr) (v : V) (d : PyData) (m : Nat), vs = [v] ∧ m < n ∧ Dp K (hidS S H) v d ∧ Tv m d ∧ Occ S H ∧ ∀ H' v', Same H H' → Xs K S H' v' → Q v' H'
def spListed (K : PySem.W.Frag) (n : Nat) : Sp := fun vs H Q _ => ∃ (S : List Addr) (v : V) (d : PyData) (m k : Nat), vs = [v, .int (k : Nat)] ∧ m < n ∧ Dp K (hidS S H) v d ∧ Tv m d ∧ Occ S H ∧ ∀ H' v', Same H H' → Xs K S H' v' → Q v' H'
section
variable {P : Program} {w : World} {K : PySem.W.Frag} {mg : Str → Option Value} {base : Heap} (T : Txt K mg)
include T
theorem ok_isint : FnOk P w K mg base CX0 1 (He.ga K "_law_is_integer") T.d__law_is_integer ["actual"] (spIsInt K) := by
  refine T.F__law_is_integer.ok sc_law_is_integer (fun vs H Q E h => ?_) (fun cdv A outer s H vs Q E hr h => ?_)
  · obtain ⟨v, d, rfl, _⟩ := h; rfl
  · obtain ⟨v, d, rfl, hv, q⟩ := h
    refine ⟨_, PSs.nox (pss_one (ps_ret (pe_and (pe_callB (r := rIsi K) call_isi (by rfl) T.isinstance (by decide +kernel) (pa_cons (pv 0) (pa_cons (pe_bltn (v := .ty "int") rfl T.int (by decide +kernel) rfl) pa_nil))) (pe_one (pe_not (pe_callB (r := rIsi K) call_isi (by rfl) T.isinstance (by decide +kernel) (pa_cons (pv 0) (pa_cons (pe_bltn (v := .ty "bool") rfl T.bool (by decide +kernel) rfl) pa_nil)))))))), ?_⟩
    refine ⟨_, rfl, v, _, _, _, isInt d, rfl, .ty _, tyx hv, ki_int d, _, rfl, ?_⟩
    by_cases h1 : isInt d = true
    · rw [h1] at q ⊢
      exact iteT ⟨_, rfl, v, _, _, _, isBool d, rfl, .ty _, tyx hv, ki_bool d, _, rfl, q⟩
    · rw [eq_false_of_ne_true h1] at q ⊢
      exact iteF q
theorem booled_step (n : Nat) (G__law_booled : FnOk P w K mg base CX0 (n + 2) (He.ga K "_law_booled") T.d__law_booled ["value"] (spBooled K n)) :
    FnOk P w K mg base CX0 (n + 3) (He.ga K "_law_booled") T.d__law_booled ["value"] (spBooled K (n + 1)) := by
  have G__law_is_integer := ok_isint (P := P) (w := w) (base := base) T
  refine T.F__law_booled.ok sc_law_booled (fun vs H Q E h => ?_) (fun cdv A outer s H vs Q E hr h => ?_)
  · obtain ⟨S, v, d, m, rfl, _⟩ := h; rfl
  · obtain ⟨S, v, d, m, rfl, hm, hd, ht, oc, q⟩ := h
    refine ⟨_, PSs.nox (pss_cons (ps_if (pt_val (pe_callB (r := rIsi K) call_isi (by rfl) T.isinstance (by decide +kernel) (pa_cons (pv 0) (pa_cons (pe_bltn (v := .ty "tuple") rfl T.tuple (by decide +kernel) rfl) pa_nil))))
    (pss_one (ps_ret (pe_callTy (r := rTupOf K) call_tuple_of (by rfl) T.tuple (by decide +kernel) (pa_cons (pe_lc (own := [("one", 1)]) (g := gName 1) (tt := tYes) (by rfl) sc_law_booled.nd (pi_tup (pv 0)) (blkOk_by (own := [("one", 1)]) (N := ["value", "one"]) (sc := defScope s_law_booled) (by decide +kernel)) (fun _ _ _ _ _ => (pg_name (i := 1) sc_law_booled.nd rfl (.inl rfl))) (fun _ _ _ _ _ => pts_nil) (fun _ _ _ _ _ => (pe_call G__law_booled (hr.mono (by omega)) (by rfl) T.g__law_booled T.F__law_booled.kp T.b__law_booled .nil pass0 (pa_cons (pv 1) pa_nil)))) pa_nil))))
    pss_nil)
    (pss_one (ps_ret (pe_ifExp (PW.pt (pw_and (pt_val (pe_call G__law_is_integer (hr.mono (by omega)) (by rfl) T.g__law_is_integer T.F__law_is_integer.kp T.b__law_is_integer .nil pass0 (pa_cons (pv 0) pa_nil))) (pw_and1 (pt_cmpR (r := rIn K false) op_in_seq (pv 0) (pe_tup (pa_cons pe_int (pa_cons pe_int pa_nil))) (by rfl))))) (pe_cmpR (r := rEqM K) (op_eqM hr.units) (pv 0) pe_int (nomark _)) (pv 0))))), ?_⟩
    have hx : Vx K H v d := (hd.same (hidS_le S H)).x
    refine ⟨_, rfl, v, _, _, _, isTup d, rfl, .ty _, tyx hx, ki_tup d, _, rfl, ?_⟩
    rcases ht.cases with ⟨x, rfl, _, _⟩ | ⟨ds, rfl⟩
    · refine iteF ⟨_, rfl, v, .str x, rfl, hx, _, rfl, iteF ⟨_, rfl, ?_⟩⟩
      exact q H v (Same.refl H) ⟨.str x, hd, ht.sml⟩
    · obtain ⟨hl, m', rfl, hi⟩ := ht.inn
      obtain ⟨a, xs, rfl, ha, hxs⟩ := vx_tup (.inl hd)
      have hln := hxs.len
      refine iteT ⟨_, rfl, a, rfl, ⟨_, (hidS_le S H).sqt ha⟩, fun D hD => ?_⟩
      have nD := oc.ne hD
      refine lc_tup (K := K) (a := a) (xs := xs) (XsC K S H D) (XsC.zero hD) (fun i H3 _ hP => hP.1.sqt ((hidS_le S H).sqt ha)) (fun i y H3 hi3 hP => ?_) (fun H3 hP => ?_)
      · obtain ⟨di, hdi, ky⟩ := hxs.at hi3
        have hmem := List.mem_of_getElem? hdi
        have ti := hi di hmem
        obtain ⟨s3, vs, hv, hvl, _⟩ := id hP
        refine ⟨rfl, _, rfl, D :: S, y, di, m', rfl, by omega, hidS_cons hv (ky.same (hidS_same s3)) ti.noL, ti, (oc.same s3).cons hv, fun H4 v' s4 x4 => ?_⟩
        exact hP.yes hD s4 x4 (by have := (List.getElem?_eq_some_iff.mp hdi).1; omega)
      · obtain ⟨s3, vs, hv, hvl, hvx⟩ := hP
        refine ⟨D, _, rfl, .inl ⟨sql_new hv, fun t ht' => ?_⟩⟩
        obtain ⟨es, he, hes⟩ := xs_all fun v hv => (hvx v hv).sub (S := S) fun a h => List.mem_cons_of_mem _ h
        have nt := (oc.same s3).ne ht'
        have hel := he.len
        refine q _ _ (s3.trans (Same.one ht')) ⟨.tuple es, .tup (sqt_new (by rw [hidS_at nt]; exact upd_same)) (he.same (hidS_new ht')), .tup (by omega) hes⟩
theorem ok_booled : ∀ n, FnOk P w K mg base CX0 (n + 2) (He.ga K "_law_booled") T.d__law_booled ["value"] (spBooled K n)
  | 0 => by
    refine T.F__law_booled.ok sc_law_booled (fun vs H Q E h => ?_) (fun cdv A outer s H vs Q E hr h => ?_)
    · obtain ⟨S, v, d, m, rfl, _⟩ := h; rfl
    · obtain ⟨S, v, d, m, _, hm, _⟩ := h; exact absurd hm (by omega)
  | n + 1 => booled_step T n (ok_booled n)
theorem listed_step (n : Nat) (G__law_listed : FnOk P w K mg base CX0 (n + 1) (He.ga K "_law_listed") T.d__law_listed ["value", "deep"] (spListed K n)) :
    FnOk P w K mg base CX0 (n + 2) (He.ga K "_law_listed") T.d__law_listed ["value", "deep"] (spListed K (n + 1)) := by
  refine T.F__law_listed.ok sc_law_listed (fun vs H Q E h => ?_) (fun cdv A outer s H vs Q E hr h => ?_)
  · obtain ⟨S, v, d, m, k, rfl, _⟩ := h; rfl
  · obtain ⟨S, v, d, m, k, rfl, hm, hd, ht, oc, q⟩ := h
    refine ⟨_, PSs.nox (pss_cons (ps_if (pt_not (pt_val (pe_callB (r := rIsi K) call_isi (by rfl) T.isinstance (by decide +kernel) (pa_cons (pv 0) (pa_cons (pe_bltn (v := .ty "tuple") rfl T.tuple (by decide +kernel) rfl) pa_nil)))))
    (pss_one (ps_ret (pv 0)))
    pss_nil)
    (pss_cons (ps_if (pt_cmpR op_eq (pv 1) pe_int (nomark _))
    (pss_one (ps_ret (pe_callTy (r := rListOf K) call_list_of (by rfl) T.list (by decide +kernel) (pa_cons (pv 0) pa_nil))))
    pss_nil)
    (pss_one (ps_ret (pe_callTy (r := rTupOf K) call_tuple_of (by rfl) T.tuple (by decide +kernel) (pa_cons (pe_lc (own := [("one", 2)]) (g := gName 2) (tt := tYes) (by rfl) sc_law_listed.nd (pi_tup (pv 0)) (blkOk_by (own := [("one", 2)]) (N := ["value", "deep", "one"]) (sc := defScope s_law_listed) (by decide +kernel)) (fun _ _ _ _ _ => (pg_name (i := 2) sc_law_listed.nd rfl (.inl rfl))) (fun _ _ _ _ _ => pts_nil) (fun _ _ _ _ _ => (pe_call G__law_listed (hr.mono (by omega)) (by rfl) T.g__law_listed T.F__law_listed.kp T.b__law_listed .nil pass0 (pa_cons (pv 2) (pa_cons (pe_op op_sub (pv 1) pe_int) pa_nil))))) pa_nil)))))), ?_⟩
    have hx : Vx K H v d := (hd.same (hidS_le S H)).x
    refine ⟨_, rfl, v, _, _, _, isTup d, rfl, .ty _, tyx hx, ki_tup d, _, rfl, ?_⟩
    rcases ht.cases with ⟨x, rfl, _, _⟩ | ⟨ds, rfl⟩
    · exact iteT ⟨_, rfl, q H v (Same.refl H) ⟨.str x, hd, ht.sml⟩⟩
    · obtain ⟨hl, m', rfl, hi⟩ := ht.inn
      obtain ⟨a, xs, rfl, ha, hxs⟩ := vx_tup (.inl hd)
      have hln := hxs.len
      refine iteF ⟨_, rfl, rfl, _, rfl, ?_⟩
      rw [m_int]
      refine ite2 (fun _ => ?_) (fun h => ?_)
      · refine ⟨_, rfl, a, _, rfl, .inr ((hidS_le S H).sqt ha), fun l hl' => ?_⟩
        have nl := oc.ne hl'
        refine q _ _ (Same.one hl') ⟨.list ds, .lst (sql_new (by rw [hidS_at nl]; exact upd_same)) (hxs.same (hidS_new hl')), .lst (by omega) fun d hd => (hi d hd).sml⟩
      · obtain ⟨j, rfl⟩ : ∃ j, k = j + 1 := ⟨k - 1, by have : ¬ k = 0 := fun e => h (decide_eq_true e); omega⟩
        have em : ((j + 1 : Nat) : Int) - 1 = (j : Nat) := by omega
        refine ⟨_, rfl, a, rfl, ⟨_, (hidS_le S H).sqt ha⟩, fun D hD => ?_⟩
        have nD := oc.ne hD
        refine lc_tup (K := K) (a := a) (xs := xs) (XsC K S H D) (XsC.zero hD) (fun i H3 _ hP => hP.1.sqt ((hidS_le S H).sqt ha)) (fun i y H3 hi3 hP => ?_) (fun H3 hP => ?_)
        · obtain ⟨di, hdi, ky⟩ := hxs.at hi3
          have hmem := List.mem_of_getElem? hdi
          have ti := hi di hmem
          obtain ⟨s3, vs, hv, hvl, _⟩ := id hP
          refine ⟨rfl, _, rfl, _, rfl, _, _, rfl, rfl, D :: S, y, di, m', j, vem em, by omega, hidS_cons hv (ky.same (hidS_same s3)) ti.noL, ti, (oc.same s3).cons hv, fun H4 v' s4 x4 => ?_⟩
          exact hP.yes hD s4 x4 (by have := (List.getElem?_eq_some_iff.mp hdi).1; omega)
        · obtain ⟨s3, vs, hv, hvl, hvx⟩ := hP
          refine ⟨D, _, rfl, .inl ⟨sql_new hv, fun t ht' => ?_⟩⟩
          obtain ⟨es, he, hes⟩ := xs_all fun v hv => (hvx v hv).sub (S := S) fun a h => List.mem_cons_of_mem _ h
          have nt := (oc.same s3).ne ht'
          have hel := he.len
          refine q _ _ (s3.trans (Same.one ht')) ⟨.tuple es, .tup (sqt_new (by rw [hidS_at nt]; exact upd_same)) (he.same (hidS_new ht')), .tup (by omega) hes⟩
theorem ok_listed : ∀ n, FnOk P w K mg base CX0 (n + 1) (He.ga K "_law_listed") T.d__law_listed ["value", "deep"] (spListed K n)
  | 0 => by
    refine T.F__law_listed.ok sc_law_listed (fun vs H Q E h => ?_) (fun cdv A outer s H vs Q E hr h => ?_)
    · obtain ⟨S, v, d, m, k, rfl, _⟩ := h; rfl
    · obtain ⟨S, v, d, m, k, _, hm, _⟩ := h; exact absurd hm (by omega)
  | n + 1 => listed_step T n (ok_listed n)
end
end K01

set_option Elab.async false
set_option linter.all false
set_option maxRecDepth 100000
set_option maxHeartbeats 4000000
namespace K01
open PySem PySem.Spec PyProof.Rows L2
theorem hidS_pl {S : List Addr} {pl : Addr} {H : Hp} (h : pl ∈ S) : Same (hidS S H) (hid pl H) := fun a o q => by
  by_cases e : a ∈ S
  · rw [hidS_in e] at q; cases q
  · rw [hidS_at e] at q
    rw [hid_at (fun z => e (by rw [z]; exact h))]; exact q
theorem cutD_mem {ds : List PyData} {lo hi : Option Int} {x : PyData} (h : x ∈ cutD ds lo hi) : x ∈ ds := List.mem_of_mem_drop (List.mem_of_mem_take h)
theorem cutD_len (ds : List PyData) (lo hi : Option Int) : (cutD ds lo hi).length ≤ ds.length := by
  unfold cutD
  rw [List.length_take, List.length_drop]; omega
theorem sml3 {a b : List PyData} {d : PyData} (ha : a.length ≤ 10) (hb : b.length ≤ 10) (h1 : ∀ x ∈ a, Sml x) (h2 : Sml d) (h3 : ∀ x ∈ b, Sml x) : Sml (.tuple ((a ++ [d]) ++ b)) :=
  .tup (by simp; omega) fun x hx => by
    rcases List.mem_append.mp hx with h | h
    · rcases List.mem_append.mp h with h | h
      · exact h1 x h
      · simp at h; subst h; exact h2
    · exact h3 x h
theorem sml2 {a b : List PyData} (ha : a.length ≤ 10) (hb : b.length ≤ 10) (h1 : ∀ x ∈ a, Sml x) (h3 : ∀ x ∈ b, Sml x) : Sml (.tuple (a ++ b)) :=
  .tup (by simp; omega) fun x hx => by
    rcases List.mem_append.mp hx with h | h
    · exact h1 x h
    · exact h3 x h
def spChanged (K : PySem.W.Frag) (n : Nat) : Sp := fun vs H Q _ => ∃ (S : List Addr) (pl sc th : Addr) (v : V) (d : PyData) (m : Nat) (xs : List V), vs = [.ref pl, v, .ref th] ∧ m < n ∧ pl ∈ S ∧ Pool pl sc H ∧ Dp K (hidS S H) v d ∧ Tv m d ∧ Occ S H ∧
  SqL K (hidS S H) th xs ∧ 0 < xs.length ∧ xs.length < 1000 ∧ (∀ x ∈ xs, Xs K S H x) ∧ ∀ H' v', But pl H H' → Pool pl sc H' → Xs K S H' v' → Q v' H'
def spSwapped (K : PySem.W.Frag) (n : Nat) : Sp := fun vs H Q _ => ∃ (S : List Addr) (pl sc : Addr) (v : V) (d : PyData) (m : Nat), vs = [.ref pl, v] ∧ m < n ∧ pl ∈ S ∧ Pool pl sc H ∧ Dp K (hidS S H) v d ∧ Tv m d ∧ Occ S H ∧
  ∀ H' v', But pl H H' → Pool pl sc H' → Xs K S H' v' → Q v' H'
section
variable {P : Program} {w : World} {K : PySem.W.Frag} {mg : Str → Option Value} {base : Heap} (T : Txt K mg)
include T
theorem changed_step (n : Nat) (G__law_changed : FnOk P w K mg base CX0 (n + 4) (He.ga K "_law_changed") T.d__law_changed ["pool", "value", "things"] (spChanged K n)) :
    FnOk P w K mg base CX0 (n + 5) (He.ga K "_law_changed") T.d__law_changed ["pool", "value", "things"] (spChanged K (n + 1)) := by
  have G__law_draw := ok_draw (P := P) (w := w) (base := base) T
  have G__law_pick := ok_pick (P := P) (w := w) (base := base) T
  refine T.F__law_changed.ok sc_law_changed (fun vs H Q E h => ?_) (fun cdv A outer s H vs Q E hr h => ?_)
  · obtain ⟨S, pl, sc, th, v, d, m, xs, rfl, _⟩ := h; rfl
  · obtain ⟨S, pl, sc, th, v, d, m, xs, rfl, hm, hpl, hp, hd, ht, oc, hth, h0, h1, hxs, q⟩ := h
    refine ⟨_, PSs.nox (pss_cons (ps_if (PW.pt (pw_or (pt_not (pt_val (pe_callB (r := rIsi K) call_isi (by rfl) T.isinstance (by decide +kernel) (pa_cons (pv 1) (pa_cons (pe_bltn (v := .ty "tuple") rfl T.tuple (by decide +kernel) rfl) pa_nil))))) (pw_or (pt_cmpR op_eq (pe_callB (r := rLenS K) call_len_seq (by rfl) T.len (by decide +kernel) (pa_cons (pv 1) pa_nil)) pe_int (nomark _)) (pw_or1 (pt_cmpR op_eq (pe_call G__law_draw (hr.mono (by omega)) (by rfl) T.g__law_draw T.F__law_draw.kp T.b__law_draw .nil pass0 (pa_cons (pv 0) (pa_cons pe_int pa_nil))) pe_int (nomark _))))))
    (pss_one (ps_ret (pe_call G__law_pick (hr.mono (by omega)) (by rfl) T.g__law_pick T.F__law_pick.kp T.b__law_pick .nil pass0 (pa_cons (pv 0) (pa_cons (pv 2) pa_nil)))))
    pss_nil)
    (pss_cons (ps_set (i := 3) sc_law_changed.nd rfl (.inl rfl) (pe_call G__law_draw (hr.mono (by omega)) (by rfl) T.g__law_draw T.F__law_draw.kp T.b__law_draw .nil pass0 (pa_cons (pv 0) (pa_cons (pe_callB (r := rLenS K) call_len_seq (by rfl) T.len (by decide +kernel) (pa_cons (pv 1) pa_nil)) pa_nil))))
    (pss_one (ps_ret (pe_op (r := rCatD K S) (op_catD S) (pe_op (r := rCatD K S) (op_catD S) (pe_slice (sl_tupD S) (pv 1) po_none (po_some (pv 3))) (pe_tup (pa_cons (pe_call G__law_changed (hr.mono (by omega)) (by rfl) T.g__law_changed T.F__law_changed.kp T.b__law_changed .nil pass0 (pa_cons (pv 0) (pa_cons (pe_ix (r := rIxT K) ix_tup (pv 1) (pv 3) (fun _ _ => rfl)) (pa_cons (pv 2) pa_nil)))) pa_nil))) (pe_slice (sl_tupD S) (pv 1) (po_some (pe_op op_add (pv 3) pe_int)) po_none)))))), ?_⟩
    have hx : Vx K H v d := (hd.same (hidS_le S H)).x
    refine ⟨_, rfl, v, _, _, _, isTup d, rfl, .ty _, tyx hx, ki_tup d, _, rfl, ?_⟩
    rcases ht.cases with ⟨x, rfl, _, _⟩ | ⟨ds, rfl⟩
    · refine iteT ⟨_, rfl, _, rfl, pl, sc, th, xs, rfl, hp, (hidS_pl hpl).seq hth, h0, by omega, fun H' v' b p hv => ?_⟩
      exact q H' v' b p ((hxs v' hv).but hpl b)
    obtain ⟨hl, m', rfl, hi⟩ := ht.inn
    obtain ⟨a, ys, rfl, ha, hys⟩ := vx_tup (.inl hd)
    have hln := hys.len
    refine iteF ⟨_, rfl, a, _, rfl, .inr ((hidS_le S H).sqt ha), rfl, _, rfl, ?_⟩
    rw [dI, hln]
    by_cases hz : ds.length = 0
    · refine ite2 (fun _ => ?_) (fun z => absurd (decide_eq_true (by omega)) z)
      refine ⟨_, rfl, _, rfl, pl, sc, th, xs, rfl, hp, (hidS_pl hpl).seq hth, h0, by omega, fun H' v' b p hv => ?_⟩
      exact q H' v' b p ((hxs v' hv).but hpl b)
    refine ite2 (fun z => absurd (of_decide_eq_true z) (by omega)) (fun _ => ?_)
    refine ⟨_, rfl, pl, sc, 7, rfl, hp, by decide, by decide, fun H1 r1 b1 p1 _ => ⟨rfl, _, rfl, ?_⟩⟩
    refine ite2 (fun _ => ?_) (fun _ => ?_)
    · refine ⟨_, rfl, _, rfl, pl, sc, th, xs, rfl, p1, (hidS_pl hpl).seq (L2.Same.seq (hidS_but hpl b1) hth), h0, by omega, fun H' v' b p hv => ?_⟩
      exact q H' v' (b1.trans b) p ((hxs v' hv).but hpl (b1.trans b))
    have haH : ∀ {H' : Hp}, But pl H H' → SqT K H' a ys := fun bb => (hidS_le S _).sqt (L2.Same.sqt (hidS_but hpl bb) ha)
    refine ⟨_, rfl, _, rfl, a, _, rfl, .inr (haH b1), pl, sc, ds.length, by rw [← hln]; rfl, p1, by omega, by omega, fun H2 r2 b2 p2 hr2 => ?_⟩
    have b12 := b1.trans b2
    have oc2 := oc.but b12 p2
    obtain ⟨di, hdi⟩ : ∃ di, ds[r2]? = some di := ⟨_, List.getElem?_eq_getElem hr2⟩
    obtain ⟨y, hy, ky⟩ := hys.at2 hdi
    have hmem := List.mem_of_getElem? hdi
    refine ⟨_, rfl, _, rfl, (r2 : Nat), rfl, ds, hd.same (hidS_but hpl b12), oc2, fun p3 H3 s3 d3 => ?_⟩
    have b3 := b12.trans (s3.but pl)
    have oc3 := oc2.same s3
    have pp3 := p2.same s3
    refine ⟨_, rfl, _, rfl, _, rfl, a, _, _, y, rfl, rfl, haH b3, at_v hy rfl, _, rfl, S, pl, sc, th, y, di, m', xs, rfl, by omega, hpl, pp3, ky.same (hidS_but hpl b3), hi di hmem, oc3, L2.Same.seq (hidS_but hpl b3) hth, h0, h1, fun x hx => (hxs x hx).but hpl b3, fun H4 v4 b4 p4 x4 => ?_⟩
    refine ⟨(by show 1 ≤ sizeLine; decide), fun t5 ht5 => ?_⟩
    have s5 : Same H4 (upd H4 t5 (.tup [v4])) := Same.one ht5
    have b34 := b4.trans (s5.but pl)
    have oc4 := oc3.but b4 p4
    have nt5 := oc4.ne ht5
    obtain ⟨d4, hd4, sm4⟩ := x4
    refine ⟨_, [d4], d3.same (hidS_but hpl b34), .tup (sqt_new (by rw [hidS_at nt5]; exact upd_same)) (.cons (hd4.same (hidS_same s5)) .nil), oc4.same s5, by have := cutD_len ds none (some ((r2 : Nat) : Int)); rw [sizeLine_eq]; simp; omega, fun p6 H6 s6 d6 => ?_⟩
    have b36 := b34.trans (s6.but pl)
    refine ⟨_, rfl, _, rfl, _, _, rfl, rfl, _, rfl, ds, hd.same (hidS_but hpl (b3.trans b36)), (oc4.same s5).same s6, fun p7 H7 s7 d7 => ?_⟩
    refine ⟨_, _, d6.same (hidS_same s7), d7, ((oc4.same s5).same s6).same s7, by have := cutD_len ds none (some ((r2 : Nat) : Int)); have := cutD_len ds (some (((r2 : Nat) : Int) + 1)) none; rw [sizeLine_eq, List.length_append]; simp; omega, fun p8 H8 s8 d8 => ?_⟩
    refine q H8 _ (((b3.trans b36).trans (s7.but pl)).trans (s8.but pl)) ((((p4.same s5).same s6).same s7).same s8) ⟨_, d8, ?_⟩
    exact sml3 (Nat.le_trans (cutD_len _ _ _) hl) (Nat.le_trans (cutD_len _ _ _) hl) (fun x hx => (hi x (cutD_mem hx)).sml) sm4 (fun x hx => (hi x (cutD_mem hx)).sml)
theorem ok_changed : ∀ n, FnOk P w K mg base CX0 (n + 4) (He.ga K "_law_changed") T.d__law_changed ["pool", "value", "things"] (spChanged K n)
  | 0 => by
    refine T.F__law_changed.ok sc_law_changed (fun vs H Q E h => ?_) (fun cdv A outer s H vs Q E hr h => ?_)
    · obtain ⟨S, pl, sc, th, v, d, m, xs, rfl, _⟩ := h; rfl
    · obtain ⟨S, pl, sc, th, v, d, m, xs, _, hm, _⟩ := h; exact absurd hm (by omega)
  | n + 1 => changed_step T n (ok_changed n)
end
end K01

set_option Elab.async false
set_option linter.all false
set_option maxRecDepth 100000
set_option maxHeartbeats 4000000
namespace K01
open PySem PySem.Spec PyProof.Rows L2
theorem dps_set {K : PySem.W.Frag} {H : Hp} {vs : List V} {ds : List PyData} {v : V} {d : PyData} (i : Nat) (h : DpAll K H vs ds) (hv : Dp K H v d) : DpAll K H (vs.set i v) (ds.set i d) :=
  dps_of (by rw [List.length_set, List.length_set, h.len]) fun j w e h1 h2 => by
    rw [List.getElem?_set] at h1 h2
    by_cases z : i = j
    · rw [if_pos z] at h1 h2
      have hl := h.len
      by_cases z2 : i < vs.length
      · rw [if_pos z2] at h1; rw [if_pos (by omega)] at h2
        cases h1; cases h2; exact hv
      · rw [if_neg z2] at h1; cases h1
    · rw [if_neg z] at h1 h2
      obtain ⟨d', e', hd⟩ := h.at h1
      rw [h2] at e'; cases e'; exact hd
theorem mem_set2 {ds : List PyData} {i j : Nat} {a b x : PyData} (ha : a ∈ ds) (hb : b ∈ ds) (h : x ∈ (ds.set i a).set j b) : x ∈ ds := by
  rcases List.mem_or_eq_of_mem_set h with h | h
  · rcases List.mem_or_eq_of_mem_set h with h | h
    · exact h
    · subst h; exact ha
  · subst h; exact hb
theorem ixN_nat {n j : Nat} (h : j < n) : ixN n (j : Int) = some j := by
  unfold ixN; rw [if_pos (by omega), if_pos (by omega)]; rfl
section
variable {P : Program} {w : World} {K : PySem.W.Frag} {mg : Str → Option Value} {base : Heap} (T : Txt K mg)
include T
theorem swapped_step (n : Nat) (G__law_swapped : FnOk P w K mg base CX0 (n + 3) (He.ga K "_law_swapped") T.d__law_swapped ["pool", "value"] (spSwapped K n)) :
    FnOk P w K mg base CX0 (n + 4) (He.ga K "_law_swapped") T.d__law_swapped ["pool", "value"] (spSwapped K (n + 1)) := by
  have G__law_draw := ok_draw (P := P) (w := w) (base := base) T
  refine T.F__law_swapped.ok sc_law_swapped (fun vs H Q E h => ?_) (fun cdv A outer s H vs Q E hr h => ?_)
  · obtain ⟨S, pl, sc, v, d, m, rfl, _⟩ := h; rfl
  · obtain ⟨S, pl, sc, v, d, m, rfl, hm, hpl, hp, hd, ht, oc, q⟩ := h
    refine ⟨_, PSs.nox (pss_cons (ps_if (PW.pt (pw_or (pt_not (pt_val (pe_callB (r := rIsi K) call_isi (by rfl) T.isinstance (by decide +kernel) (pa_cons (pv 1) (pa_cons (pe_bltn (v := .ty "tuple") rfl T.tuple (by decide +kernel) rfl) pa_nil))))) (pw_or1 (pt_cmpR op_eq (pe_callB (r := rLenS K) call_len_seq (by rfl) T.len (by decide +kernel) (pa_cons (pv 1) pa_nil)) pe_int (nomark _)))))
    (pss_one (ps_ret (pv 1)))
    pss_nil)
    (pss_cons (ps_set (i := 2) sc_law_swapped.nd rfl (.inl rfl) (pe_call G__law_draw (hr.mono (by omega)) (by rfl) T.g__law_draw T.F__law_draw.kp T.b__law_draw .nil pass0 (pa_cons (pv 0) (pa_cons (pe_callB (r := rLenS K) call_len_seq (by rfl) T.len (by decide +kernel) (pa_cons (pv 1) pa_nil)) pa_nil))))
    (pss_cons (ps_if (PW.pt (pw_and (pt_val (pe_callB (r := rIsi K) call_isi (by rfl) T.isinstance (by decide +kernel) (pa_cons (pe_ix (r := rIxT K) ix_tup (pv 1) (pv 2) (fun _ _ => rfl)) (pa_cons (pe_bltn (v := .ty "tuple") rfl T.tuple (by decide +kernel) rfl) pa_nil)))) (pw_and1 (pt_cmpR op_gt (pe_call G__law_draw (hr.mono (by omega)) (by rfl) T.g__law_draw T.F__law_draw.kp T.b__law_draw .nil pass0 (pa_cons (pv 0) (pa_cons pe_int pa_nil))) pe_int (nomark _)))))
    (pss_one (ps_ret (pe_op (r := rCatD K S) (op_catD S) (pe_op (r := rCatD K S) (op_catD S) (pe_slice (sl_tupD S) (pv 1) po_none (po_some (pv 2))) (pe_tup (pa_cons (pe_call G__law_swapped (hr.mono (by omega)) (by rfl) T.g__law_swapped T.F__law_swapped.kp T.b__law_swapped .nil pass0 (pa_cons (pv 0) (pa_cons (pe_ix (r := rIxT K) ix_tup (pv 1) (pv 2) (fun _ _ => rfl)) pa_nil))) pa_nil))) (pe_slice (sl_tupD S) (pv 1) (po_some (pe_op op_add (pv 2) pe_int)) po_none))))
    pss_nil)
    (pss_cons (ps_set (i := 3) sc_law_swapped.nd rfl (.inl rfl) (pe_call G__law_draw (hr.mono (by omega)) (by rfl) T.g__law_draw T.F__law_draw.kp T.b__law_draw .nil pass0 (pa_cons (pv 0) (pa_cons (pe_callB (r := rLenS K) call_len_seq (by rfl) T.len (by decide +kernel) (pa_cons (pv 1) pa_nil)) pa_nil))))
    (pss_cons (ps_set (i := 4) sc_law_swapped.nd rfl (.inl rfl) (pe_callTy (r := rListOf K) call_list_of (by rfl) T.list (by decide +kernel) (pa_cons (pv 1) pa_nil)))
    (pss_cons (ps_asg (pe_tup (pa_cons (pe_ix (r := rIxL K) ix_list (pv 4) (pv 3) (fun _ _ => rfl)) (pa_cons (pe_ix (r := rIxL K) ix_list (pv 4) (pv 2) (fun _ _ => rfl)) pa_nil))) (pg_tup rfl (pgs_cons (pg_sub (pv 4) (pv 2) set_list) (pgs_cons (pg_sub (pv 4) (pv 3) set_list) pgs_nil))))
    (pss_one (ps_ret (pe_callTy (r := rTupOf K) call_tuple_of (by rfl) T.tuple (by decide +kernel) (pa_cons (pv 4) pa_nil)))))))))), ?_⟩
    have hx : Vx K H v d := (hd.same (hidS_le S H)).x
    refine ⟨_, rfl, v, _, _, _, isTup d, rfl, .ty _, tyx hx, ki_tup d, _, rfl, ?_⟩
    rcases ht.cases with ⟨x, rfl, _, _⟩ | ⟨ds, rfl⟩
    · exact iteT ⟨_, rfl, q H v (But.refl pl H) hp ⟨.str x, hd, ht.sml⟩⟩
    have htS := ht.sml
    obtain ⟨hl, m', rfl, hi⟩ := ht.inn
    obtain ⟨a, ys, rfl, ha, hys⟩ := vx_tup (.inl hd)
    have hln := hys.len
    refine iteF ⟨_, rfl, a, _, rfl, .inr ((hidS_le S H).sqt ha), rfl, _, rfl, ?_⟩
    rw [dI, hln]
    by_cases hz : ds.length = 0
    · refine ite2 (fun _ => ?_) (fun z => absurd (decide_eq_true (by omega)) z)
      exact ⟨_, rfl, q H _ (But.refl pl H) hp ⟨.tuple ds, hd, htS⟩⟩
    refine ite2 (fun z => absurd (of_decide_eq_true z) (by omega)) (fun _ => ?_)
    have haH : ∀ {H' : Hp}, But pl H H' → SqT K H' a ys := fun bb => (hidS_le S _).sqt (L2.Same.sqt (hidS_but hpl bb) ha)
    refine ⟨_, rfl, _, rfl, a, _, rfl, .inr (haH (But.refl pl H)), pl, sc, ds.length, by rw [← hln]; rfl, hp, by omega, by omega, fun H1 r2 b1 p1 hr2 => ?_⟩
    obtain ⟨di, hdi⟩ : ∃ di, ds[r2]? = some di := ⟨_, List.getElem?_eq_getElem hr2⟩
    obtain ⟨y, hy, ky⟩ := hys.at2 hdi
    have hmem := List.mem_of_getElem? hdi
    have hyx : Vx K H1 y di := (Dp.same (ky.same (hidS_but hpl b1)) (hidS_le S H1)).x
    refine ⟨_, rfl, _, rfl, a, _, _, y, rfl, rfl, haH b1, at_v hy rfl, y, _, _, _, isTup di, rfl, .ty _, tyx hyx, ki_tup di, _, rfl, ?_⟩
    by_cases htd : isTup di = true
    · rw [htd]
      refine iteT ⟨_, rfl, pl, sc, 4, rfl, p1, by decide, by decide, fun H2 r3 b2 p2 _ => ⟨_, _, rfl, rfl, _, rfl, ?_⟩⟩
      refine ite2 (fun _ => ?_) (fun _ => ?_)
      · have b12 := b1.trans b2
        have oc2 := oc.but b12 p2
        refine ⟨_, rfl, _, rfl, (r2 : Nat), rfl, ds, hd.same (hidS_but hpl b12), oc2, fun p3 H3 s3 d3 => ?_⟩
        have b3 := b12.trans (s3.but pl)
        have oc3 := oc2.same s3
        have pp3 := p2.same s3
        refine ⟨_, rfl, _, rfl, _, rfl, a, _, _, y, rfl, rfl, haH b3, at_v hy rfl, S, pl, sc, y, di, m', rfl, by omega, hpl, pp3, ky.same (hidS_but hpl b3), hi di hmem, oc3, fun H4 v4 b4 p4 x4 => ?_⟩
        refine ⟨(by show 1 ≤ sizeLine; decide), fun t5 ht5 => ?_⟩
        have s5 : Same H4 (upd H4 t5 (.tup [v4])) := Same.one ht5
        have b34 := b4.trans (s5.but pl)
        have oc4 := oc3.but b4 p4
        have nt5 := oc4.ne ht5
        obtain ⟨d4, hd4, sm4⟩ := x4
        refine ⟨_, [d4], d3.same (hidS_but hpl b34), .tup (sqt_new (by rw [hidS_at nt5]; exact upd_same)) (.cons (hd4.same (hidS_same s5)) .nil), oc4.same s5, by have := cutD_len ds none (some ((r2 : Nat) : Int)); rw [sizeLine_eq]; simp; omega, fun p6 H6 s6 d6 => ?_⟩
        have b36 := b34.trans (s6.but pl)
        refine ⟨_, rfl, _, rfl, _, _, rfl, rfl, _, rfl, ds, hd.same (hidS_but hpl (b3.trans b36)), (oc4.same s5).same s6, fun p7 H7 s7 d7 => ?_⟩
        refine ⟨_, _, d6.same (hidS_same s7), d7, ((oc4.same s5).same s6).same s7, by have := cutD_len ds none (some ((r2 : Nat) : Int)); have := cutD_len ds (some (((r2 : Nat) : Int) + 1)) none; rw [sizeLine_eq, List.length_append]; simp; omega, fun p8 H8 s8 d8 => ?_⟩
        refine q H8 _ (((b3.trans b36).trans (s7.but pl)).trans (s8.but pl)) ((((p4.same s5).same s6).same s7).same s8) ⟨_, d8, ?_⟩
        exact sml3 (Nat.le_trans (cutD_len _ _ _) hl) (Nat.le_trans (cutD_len _ _ _) hl) (fun x hx => (hi x (cutD_mem hx)).sml) sm4 (fun x hx => (hi x (cutD_mem hx)).sml)
      · have b12 := b1.trans b2
        have oc2 := oc.but b12 p2
        refine ⟨_, rfl, _, rfl, a, _, rfl, .inr (haH b12), pl, sc, ds.length, by rw [← hln]; rfl, p2, by omega, by omega, fun H3 r4 b3 p3 hr4 => ?_⟩
        have b13 := b12.trans b3
        have oc3 := oc2.but b3 p3
        obtain ⟨dj, hdj⟩ : ∃ dj, ds[r4]? = some dj := ⟨_, List.getElem?_eq_getElem hr4⟩
        obtain ⟨z, hz4, kz⟩ := hys.at2 hdj
        have hmem4 := List.mem_of_getElem? hdj
        refine ⟨_, rfl, a, _, rfl, .inr (haH b13), fun l hl4 => ?_⟩
        have nl := oc3.ne hl4
        have s4 : Same H3 (upd H3 l (.lst ys)) := Same.one hl4
        have e4 : (upd H3 l (.lst ys)) l = some (.lst ys) := upd_same
        have p4 := p3.same s4
        have oc4 := oc3.same s4
        have b14 := b13.trans (s4.but pl)
        refine ⟨_, rfl, _, rfl, l, _, _, z, rfl, rfl, sql_new e4, at_v hz4 rfl, _, rfl, _, rfl, l, _, _, y, rfl, rfl, sql_new e4, at_v hy rfl, (by show 2 ≤ sizeLine; decide), fun t5 ht5 => ?_⟩
        have s5 : Same (upd H3 l (.lst ys)) (upd (upd H3 l (.lst ys)) t5 (.tup [z, y])) := Same.one ht5
        have e5 := s5 _ _ e4
        have b15 := b14.trans (s5.but pl)
        have p5 := p4.same s5
        have oc5 := oc4.same s5
        have nlp : l ≠ pl := p3.ne hl4
        have nls : sc ≠ l := p3.nes hl4
        have hys5 := hys.same (hidS_but hpl b15)
        have kz5 := kz.same (hidS_but hpl b15)
        have ky5 := ky.same (hidS_but hpl b15)
        revert e5 b15 p5 oc5 hys5 kz5 ky5
        have ht5s : SqT K (upd (upd H3 l (.lst ys)) t5 (.tup [z, y])) t5 [z, y] := sqt_new upd_same
        revert ht5s
        generalize upd (upd H3 l (.lst ys)) t5 (.tup [z, y]) = G5
        intro ht5s e5 b15 p5 oc5 hys5 kz5 ky5
        have nlH : H l = none := by
          cases hq : H l with
          | none => rfl
          | some o =>
            have := b13.at hq nlp
            rw [hl4] at this; cases this
        refine ⟨t5, _, rfl, ht5s, rfl, ?_⟩
        refine ⟨_, _, rfl, _, rfl, _, rfl, l, ys, _, r2, rfl, rfl, e5, ixN_nat (by omega), ?_⟩
        refine ⟨_, _, rfl, _, rfl, _, rfl, l, _, _, r4, rfl, rfl, upd_same, ixN_nat (by rw [List.length_set]; omega), rfl, ?_⟩
        have nlS : ∀ d ∈ ds, NoL d := fun d hd => (hi d hd).noL
        have g6 : (hidS S G5) l = some (.lst ys) := by rw [hidS_at nl]; exact e5
        have h6 := dps_upd (o := .lst (ys.set r2 z)) g6 _ _ hys5 nlS
        have kz6 := dp_upd (o := .lst (ys.set r2 z)) g6 _ _ kz5 (nlS dj hmem4)
        have ky6 := dp_upd (o := .lst (ys.set r2 z)) g6 _ _ ky5 (nlS di hmem)
        have h6' := dps_set r2 h6 kz6
        have nlS' : ∀ d ∈ ds.set r2 dj, NoL d := fun d hd => by
          rcases List.mem_or_eq_of_mem_set hd with h | h
          · exact nlS d h
          · subst h; exact nlS d hmem4
        have g7 : (upd (hidS S G5) l (.lst (ys.set r2 z))) l = some (.lst (ys.set r2 z)) := upd_same
        have h7 := dps_set r4 (dps_upd (o := .lst ((ys.set r2 z).set r4 y)) g7 _ _ h6' nlS') (dp_upd (o := .lst ((ys.set r2 z).set r4 y)) g7 _ _ ky6 (nlS di hmem))
        rw [← hidS_upd nl, ← hidS_upd nl] at h7
        have p7 := (p5.upd (o := .lst (ys.set r2 z)) nlp nls).upd (o := .lst ((ys.set r2 z).set r4 y)) nlp nls
        have oc7 : Occ S (upd (upd G5 l (.lst (ys.set r2 z))) l (.lst ((ys.set r2 z).set r4 y))) := fun x hx => by
          obtain ⟨o, ho⟩ := oc5 x hx
          have : x ≠ l := fun e => nl (by rw [← e]; exact hx)
          exact ⟨o, by rw [upd_ne this, upd_ne this]; exact ho⟩
        have b17 := (b15.upd_new (o := .lst (ys.set r2 z)) nlH nlp).upd_new (o := .lst ((ys.set r2 z).set r4 y)) nlH nlp
        refine ⟨_, rfl, l, _, rfl, .inl ⟨sql_new upd_same, fun p hp8 => ?_⟩⟩
        have np8 := oc7.ne hp8
        refine q _ _ (b17.trans ((Same.one hp8).but pl)) (p7.same (Same.one hp8)) ⟨_, .tup (sqt_new (by rw [hidS_at np8]; exact upd_same)) (h7.same (hidS_new hp8)), ?_⟩
        exact .tup (by rw [List.length_set, List.length_set]; omega) fun x hx => (hi x (mem_set2 hmem4 hmem hx)).sml
    · rw [eq_false_of_ne_true htd]
      have b12 := b1
      have oc2 := oc.but b12 p1
      have p2 := p1
      refine ⟨_, rfl, _, rfl, a, _, rfl, .inr (haH b12), pl, sc, ds.length, by rw [← hln]; rfl, p2, by omega, by omega, fun H3 r4 b3 p3 hr4 => ?_⟩
      have b13 := b12.trans b3
      have oc3 := oc2.but b3 p3
      obtain ⟨dj, hdj⟩ : ∃ dj, ds[r4]? = some dj := ⟨_, List.getElem?_eq_getElem hr4⟩
      obtain ⟨z, hz4, kz⟩ := hys.at2 hdj
      have hmem4 := List.mem_of_getElem? hdj
      refine ⟨_, rfl, a, _, rfl, .inr (haH b13), fun l hl4 => ?_⟩
      have nl := oc3.ne hl4
      have s4 : Same H3 (upd H3 l (.lst ys)) := Same.one hl4
      have e4 : (upd H3 l (.lst ys)) l = some (.lst ys) := upd_same
      have p4 := p3.same s4
      have oc4 := oc3.same s4
      have b14 := b13.trans (s4.but pl)
      refine ⟨_, rfl, _, rfl, l, _, _, z, rfl, rfl, sql_new e4, at_v hz4 rfl, _, rfl, _, rfl, l, _, _, y, rfl, rfl, sql_new e4, at_v hy rfl, (by show 2 ≤ sizeLine; decide), fun t5 ht5 => ?_⟩
      have s5 : Same (upd H3 l (.lst ys)) (upd (upd H3 l (.lst ys)) t5 (.tup [z, y])) := Same.one ht5
      have e5 := s5 _ _ e4
      have b15 := b14.trans (s5.but pl)
      have p5 := p4.same s5
      have oc5 := oc4.same s5
      have nlp : l ≠ pl := p3.ne hl4
      have nls : sc ≠ l := p3.nes hl4
      have hys5 := hys.same (hidS_but hpl b15)
      have kz5 := kz.same (hidS_but hpl b15)
      have ky5 := ky.same (hidS_but hpl b15)
      revert e5 b15 p5 oc5 hys5 kz5 ky5
      have ht5s : SqT K (upd (upd H3 l (.lst ys)) t5 (.tup [z, y])) t5 [z, y] := sqt_new upd_same
      revert ht5s
      generalize upd (upd H3 l (.lst ys)) t5 (.tup [z, y]) = G5
      intro ht5s e5 b15 p5 oc5 hys5 kz5 ky5
      have nlH : H l = none := by
        cases hq : H l with
        | none => rfl
        | some o =>
          have := b13.at hq nlp
          rw [hl4] at this; cases this
      refine ⟨t5, _, rfl, ht5s, rfl, ?_⟩
      refine ⟨_, _, rfl, _, rfl, _, rfl, l, ys, _, r2, rfl, rfl, e5, ixN_nat (by omega), ?_⟩
      refine ⟨_, _, rfl, _, rfl, _, rfl, l, _, _, r4, rfl, rfl, upd_same, ixN_nat (by rw [List.length_set]; omega), rfl, ?_⟩
      have nlS : ∀ d ∈ ds, NoL d := fun d hd => (hi d hd).noL
      have g6 : (hidS S G5) l = some (.lst ys) := by rw [hidS_at nl]; exact e5
      have h6 := dps_upd (o := .lst (ys.set r2 z)) g6 _ _ hys5 nlS
      have kz6 := dp_upd (o := .lst (ys.set r2 z)) g6 _ _ kz5 (nlS dj hmem4)
      have ky6 := dp_upd (o := .lst (ys.set r2 z)) g6 _ _ ky5 (nlS di hmem)
      have h6' := dps_set r2 h6 kz6
      have nlS' : ∀ d ∈ ds.set r2 dj, NoL d := fun d hd => by
        rcases List.mem_or_eq_of_mem_set hd with h | h
        · exact nlS d h
        · subst h; exact nlS d hmem4
      have g7 : (upd (hidS S G5) l (.lst (ys.set r2 z))) l = some (.lst (ys.set r2 z)) := upd_same
      have h7 := dps_set r4 (dps_upd (o := .lst ((ys.set r2 z).set r4 y)) g7 _ _ h6' nlS') (dp_upd (o := .lst ((ys.set r2 z).set r4 y)) g7 _ _ ky6 (nlS di hmem))
      rw [← hidS_upd nl, ← hidS_upd nl] at h7
      have p7 := (p5.upd (o := .lst (ys.set r2 z)) nlp nls).upd (o := .lst ((ys.set r2 z).set r4 y)) nlp nls
      have oc7 : Occ S (upd (upd G5 l (.lst (ys.set r2 z))) l (.lst ((ys.set r2 z).set r4 y))) := fun x hx => by
        obtain ⟨o, ho⟩ := oc5 x hx
        have : x ≠ l := fun e => nl (by rw [← e]; exact hx)
        exact ⟨o, by rw [upd_ne this, upd_ne this]; exact ho⟩
      have b17 := (b15.upd_new (o := .lst (ys.set r2 z)) nlH nlp).upd_new (o := .lst ((ys.set r2 z).set r4 y)) nlH nlp
      refine ⟨_, rfl, l, _, rfl, .inl ⟨sql_new upd_same, fun p hp8 => ?_⟩⟩
      have np8 := oc7.ne hp8
      refine q _ _ (b17.trans ((Same.one hp8).but pl)) (p7.same (Same.one hp8)) ⟨_, .tup (sqt_new (by rw [hidS_at np8]; exact upd_same)) (h7.same (hidS_new hp8)), ?_⟩
      exact .tup (by rw [List.length_set, List.length_set]; omega) fun x hx => (hi x (mem_set2 hmem4 hmem hx)).sml
theorem ok_swapped : ∀ n, FnOk P w K mg base CX0 (n + 3) (He.ga K "_law_swapped") T.d__law_swapped ["pool", "value"] (spSwapped K n)
  | 0 => by
    refine T.F__law_swapped.ok sc_law_swapped (fun vs H Q E h => ?_) (fun cdv A outer s H vs Q E hr h => ?_)
    · obtain ⟨S, pl, sc, v, d, m, rfl, _⟩ := h; rfl
    · obtain ⟨S, pl, sc, v, d, m, _, hm, _⟩ := h; exact absurd hm (by omega)
  | n + 1 => swapped_step T n (ok_swapped n)
end
end K01

set_option Elab.async false
set_option linter.all false
set_option maxRecDepth 100000
set_option maxHeartbeats 4000000
namespace K01
open PySem PySem.Spec PyProof.Rows L2
theorem str_app_len (a b : Str) : (a ++ b).length = a.length + b.length := by
  show (a.cps ++ b.cps).size = _
  rw [Array.size_append]; rfl
theorem str_app_ok {a b : Str} (ha : PyData.strOk a = true) (hb : PyData.strOk b = true) : PyData.strOk (a ++ b) = true := by
  unfold PyData.strOk at *
  show (a.cps ++ b.cps).all _ = true
  rw [Array.all_append, ha, hb]; rfl
theorem cutS_ok {a : Str} {lo hi : Option Int} (h : PyData.strOk a = true) : PyData.strOk (cutS a lo hi) = true := by
  unfold PyData.strOk at *
  unfold cutS
  rw [← Array.all_toList, List.all_eq_true] at h ⊢
  intro x hx
  exact h x (List.mem_of_mem_drop (List.mem_of_mem_take (by simpa using hx)))
theorem xs_str {K : PySem.W.Frag} {S : List Addr} {H : Hp} {x : Str} (h : x.length ≤ 1000) (o : PyData.strOk x = true) : Xs K S H (.str x) := ⟨.str x, .str x, .str h o⟩
section
variable {P : Program} {w : World} {K : PySem.W.Frag} {mg : Str → Option Value} {base : Heap} (T : Txt K mg)
include T
theorem bent_step (n : Nat) (G__law_bent : FnOk P w K mg base CX0 (n + 3) (He.ga K "_law_bent") T.d__law_bent ["pool", "value"] (spSwapped K n)) :
    FnOk P w K mg base CX0 (n + 4) (He.ga K "_law_bent") T.d__law_bent ["pool", "value"] (spSwapped K (n + 1)) := by
  have G__law_draw := ok_draw (P := P) (w := w) (base := base) T
  have G__law_is_integer := ok_isint (P := P) (w := w) (base := base) T
  refine T.F__law_bent.ok sc_law_bent (fun vs H Q E h => ?_) (fun cdv A outer s H vs Q E hr h => ?_)
  · obtain ⟨S, pl, sc, v, d, m, rfl, _⟩ := h; rfl
  · obtain ⟨S, pl, sc, v, d, m, rfl, hm, hpl, hp, hd, ht, oc, q⟩ := h
    refine ⟨_, PSs.nox (pss_cons (ps_if (PW.pt (pw_and (pt_val (pe_callB (r := rIsi K) call_isi (by rfl) T.isinstance (by decide +kernel) (pa_cons (pv 1) (pa_cons (pe_bltn (v := .ty "tuple") rfl T.tuple (by decide +kernel) rfl) pa_nil)))) (pw_and (pt_cmpR op_gt (pe_callB (r := rLenS K) call_len_seq (by rfl) T.len (by decide +kernel) (pa_cons (pv 1) pa_nil)) pe_int (nomark _)) (pw_and1 (pt_cmpR op_gt (pe_call G__law_draw (hr.mono (by omega)) (by rfl) T.g__law_draw T.F__law_draw.kp T.b__law_draw .nil pass0 (pa_cons (pv 0) (pa_cons pe_int pa_nil))) pe_int (nomark _))))))
    (pss_cons (ps_set (i := 2) sc_law_bent.nd rfl (.inl rfl) (pe_call G__law_draw (hr.mono (by omega)) (by rfl) T.g__law_draw T.F__law_draw.kp T.b__law_draw .nil pass0 (pa_cons (pv 0) (pa_cons (pe_callB (r := rLenS K) call_len_seq (by rfl) T.len (by decide +kernel) (pa_cons (pv 1) pa_nil)) pa_nil))))
    (pss_one (ps_ret (pe_op (r := rCatD K S) (op_catD S) (pe_op (r := rCatD K S) (op_catD S) (pe_slice (sl_tupD S) (pv 1) po_none (po_some (pv 2))) (pe_tup (pa_cons (pe_call G__law_bent (hr.mono (by omega)) (by rfl) T.g__law_bent T.F__law_bent.kp T.b__law_bent .nil pass0 (pa_cons (pv 0) (pa_cons (pe_ix (r := rIxT K) ix_tup (pv 1) (pv 2) (fun _ _ => rfl)) pa_nil))) pa_nil))) (pe_slice (sl_tupD S) (pv 1) (po_some (pe_op op_add (pv 2) pe_int)) po_none)))))
    pss_nil)
    (pss_cons (ps_set (i := 3) sc_law_bent.nd rfl (.inl rfl) (pe_call G__law_draw (hr.mono (by omega)) (by rfl) T.g__law_draw T.F__law_draw.kp T.b__law_draw .nil pass0 (pa_cons (pv 0) (pa_cons pe_int pa_nil))))
    (pss_cons (ps_if (pt_cmpR op_eq (pv 3) pe_int (nomark _))
    (pss_one (ps_ret (pe_ix (r := rIxT K) ix_tup (pe_tup (pa_cons pe_str (pa_cons pe_bl (pa_cons (pe_tup pa_nil) (pa_cons pe_int (pa_cons (pe_un un_neg pe_int) (pa_cons pe_non (pa_cons pe_bl (pa_cons (pe_lst pa_nil) (pa_cons pe_str (pa_cons pe_int pa_nil))))))))))) (pe_call G__law_draw (hr.mono (by omega)) (by rfl) T.g__law_draw T.F__law_draw.kp T.b__law_draw .nil pass0 (pa_cons (pv 0) (pa_cons pe_int pa_nil))) (fun _ _ => rfl))))
    pss_nil)
    (pss_cons (ps_if (pt_val (pe_call G__law_is_integer (hr.mono (by omega)) (by rfl) T.g__law_is_integer T.F__law_is_integer.kp T.b__law_is_integer .nil pass0 (pa_cons (pv 1) pa_nil)))
    (pss_one (ps_ret (pe_op (r := rCatD K S) (op_catD S) (pv 1) (pe_ix (r := rIxT K) ix_tup (pe_tup (pa_cons pe_int (pa_cons (pe_un un_neg pe_int) (pa_cons pe_int (pa_cons pe_int pa_nil))))) (pe_call G__law_draw (hr.mono (by omega)) (by rfl) T.g__law_draw T.F__law_draw.kp T.b__law_draw .nil pass0 (pa_cons (pv 0) (pa_cons pe_int pa_nil))) (fun _ _ => rfl)))))
    pss_nil)
    (pss_cons (ps_if (pt_val (pe_callB (r := rIsi K) call_isi (by rfl) T.isinstance (by decide +kernel) (pa_cons (pv 1) (pa_cons (pe_bltn (v := .ty "str") rfl T.str (by decide +kernel) rfl) pa_nil))))
    (pss_one (ps_ret (pe_ix (r := rIxT K) ix_tup (pe_tup (pa_cons (pe_op op_add_str (pv 1) pe_str) (pa_cons (pe_slice sl_str (pv 1) (po_some pe_int) po_none) (pa_cons (pe_op op_add_str (pv 1) pe_str) (pa_cons (pe_op op_add_str (pv 1) pe_str) (pa_cons (pe_slice sl_str (pv 1) po_none (po_some pe_int)) pa_nil)))))) (pe_call G__law_draw (hr.mono (by omega)) (by rfl) T.g__law_draw T.F__law_draw.kp T.b__law_draw .nil pass0 (pa_cons (pv 0) (pa_cons pe_int pa_nil))) (fun _ _ => rfl))))
    pss_nil)
    (pss_cons (ps_if (PW.pt (pw_or (pt_not (pt_val (pe_callB (r := rIsi K) call_isi (by rfl) T.isinstance (by decide +kernel) (pa_cons (pv 1) (pa_cons (pe_bltn (v := .ty "tuple") rfl T.tuple (by decide +kernel) rfl) pa_nil))))) (pw_or1 (pt_cmpR op_eq (pe_callB (r := rLenS K) call_len_seq (by rfl) T.len (by decide +kernel) (pa_cons (pv 1) pa_nil)) pe_int (nomark _)))))
    (pss_one (ps_ret (pe_ifExp (pt_cmpR op_lt (pv 3) pe_int (nomark _)) (pe_tup (pa_cons (pv 1) (pa_cons pe_int pa_nil))) (pe_tup pa_nil))))
    pss_nil)
    (pss_cons (ps_set (i := 2) sc_law_bent.nd rfl (.inl rfl) (pe_call G__law_draw (hr.mono (by omega)) (by rfl) T.g__law_draw T.F__law_draw.kp T.b__law_draw .nil pass0 (pa_cons (pv 0) (pa_cons (pe_callB (r := rLenS K) call_len_seq (by rfl) T.len (by decide +kernel) (pa_cons (pv 1) pa_nil)) pa_nil))))
    (pss_cons (ps_if (pt_cmpR op_lt (pv 3) pe_int (nomark _))
    (pss_one (ps_ret (pe_op (r := rCatD K S) (op_catD S) (pe_slice (sl_tupD S) (pv 1) po_none (po_some (pv 2))) (pe_slice (sl_tupD S) (pv 1) (po_some (pe_op op_add (pv 2) pe_int)) po_none))))
    pss_nil)
    (pss_cons (ps_if (pt_cmpR op_lt (pv 3) pe_int (nomark _))
    (pss_one (ps_ret (pe_op (r := rCatD K S) (op_catD S) (pe_op (r := rCatD K S) (op_catD S) (pe_slice (sl_tupD S) (pv 1) po_none (po_some (pv 2))) (pe_tup (pa_cons (pe_ix (r := rIxT K) ix_tup (pv 1) (pv 2) (fun _ _ => rfl)) pa_nil))) (pe_slice (sl_tupD S) (pv 1) (po_some (pv 2)) po_none))))
    pss_nil)
    (pss_cons (ps_if (pt_cmpR op_eq (pv 3) pe_int (nomark _))
    (pss_one (ps_ret (pe_callTy (r := rListOf K) call_list_of (by rfl) T.list (by decide +kernel) (pa_cons (pv 1) pa_nil))))
    pss_nil)
    (pss_cons (ps_set (i := 4) sc_law_bent.nd rfl (.inl rfl) (pe_call G__law_draw (hr.mono (by omega)) (by rfl) T.g__law_draw T.F__law_draw.kp T.b__law_draw .nil pass0 (pa_cons (pv 0) (pa_cons (pe_callB (r := rLenS K) call_len_seq (by rfl) T.len (by decide +kernel) (pa_cons (pv 1) pa_nil)) pa_nil))))
    (pss_cons (ps_set (i := 5) sc_law_bent.nd rfl (.inl rfl) (pe_callTy (r := rListOf K) call_list_of (by rfl) T.list (by decide +kernel) (pa_cons (pv 1) pa_nil)))
    (pss_cons (ps_asg (pe_ix (r := rIxT K) ix_tup (pv 1) (pv 4) (fun _ _ => rfl)) (pg_sub (pv 5) (pv 2) set_list))
    (pss_cons (ps_asg (pe_ix (r := rIxT K) ix_tup (pv 1) (pv 2) (fun _ _ => rfl)) (pg_sub (pv 5) (pv 4) set_list))
    (pss_one (ps_ret (pe_callTy (r := rTupOf K) call_tuple_of (by rfl) T.tuple (by decide +kernel) (pa_cons (pv 5) pa_nil)))))))))))))))))), ?_⟩
    have hx : Vx K H v d := (hd.same (hidS_le S H)).x
    refine ⟨_, rfl, v, _, _, _, isTup d, rfl, .ty _, tyx hx, ki_tup d, _, rfl, ?_⟩
    rcases ht.cases with ⟨x, rfl, hxl, hxo⟩ | ⟨ds, rfl⟩
    · have b0 := But.refl pl H
      refine iteF ?_
      refine ⟨_, rfl, pl, sc, 9, rfl, hp, by decide, by decide, fun H1 r1 b1 p1 hr1 => ⟨_, rfl, rfl, _, rfl, ?_⟩⟩
      have oc1 := oc.but b1 p1
      refine ite2 (fun _ => ?_) (fun _ => ?_)
      · refine ⟨Nat.zero_le _, fun t1 ht1 => ⟨_, rfl, Nat.zero_le _, fun l hl1 => ⟨(by show 10 ≤ sizeLine; decide), fun t2 ht2 => ?_⟩⟩⟩
        have s1 : Same H1 (upd H1 t1 (.tup [])) := Same.one ht1
        have s2 : Same _ (upd (upd H1 t1 (.tup [])) l (.lst [])) := Same.one hl1
        have s3 : Same _ (upd (upd (upd H1 t1 (.tup [])) l (.lst [])) t2 (.tup [.str "x", .bl true, .ref t1, .int 0, .int (-1), .non, .bl false, .ref l, .str "in", .int 1])) := Same.one ht2
        have s13 := (s1.trans s2).trans s3
        have p4 := p1.same s13
        have nt1 := oc1.ne ht1
        have nl1 := (oc1.same s1).ne hl1
        have nt2 := p1.same (s1.trans s2) |>.ne ht2
        have e1 := s3 _ _ (s2 t1 _ upd_same)
        have e2 := s3 l _ upd_same
        refine ⟨_, rfl, pl, sc, 10, rfl, p4, by decide, by decide, fun H5 r5 b5 p5 hr5 => ?_⟩
        obtain ⟨v5, hv5⟩ : ∃ v, ([.str "x", .bl true, .ref t1, .int 0, .int (-1), .non, .bl false, .ref l, .str "in", .int 1] : List V)[r5]? = some v := ⟨_, List.getElem?_eq_getElem hr5⟩
        refine ⟨t2, _, _, v5, rfl, rfl, sqt_new (b5.at upd_same nt2), atI_nat hv5, ?_⟩
        refine q H5 v5 ((b0.trans b1).trans ((s13.but pl).trans b5)) p5 (Xs.but (pl := pl) ?_ hpl b5)
        have hm5 := List.mem_of_getElem? hv5
        simp only [List.mem_cons, List.not_mem_nil, or_false] at hm5
        rcases hm5 with rfl | rfl | rfl | rfl | rfl | rfl | rfl | rfl | rfl | rfl
        · exact xs_str (by decide +kernel) (by decide +kernel)
        · exact ⟨_, .bl _, .bl _⟩
        · exact ⟨.tuple [], .tup (sqt_new (by rw [hidS_at nt1]; exact e1)) .nil, .tup (by simp) (by simp)⟩
        · exact ⟨_, .int _, .int _⟩
        · exact ⟨_, .int _, .int _⟩
        · exact ⟨_, .non, .non⟩
        · exact ⟨_, .bl _, .bl _⟩
        · exact ⟨.list [], .lst (sql_new (by rw [hidS_at nl1]; exact e2)) .nil, .lst (by simp) (by simp)⟩
        · exact xs_str (by decide +kernel) (by decide +kernel)
        · exact ⟨_, .int _, .int _⟩
      · obtain rfl := vx_str hx
        refine ⟨_, rfl, .str x, .str x, rfl, .inl (.str x), _, rfl, iteF ?_⟩
        refine ⟨_, rfl, .str x, _, _, _, true, rfl, .ty _, .base (.str x), ki_str (.str x), _, rfl, iteT ?_⟩
        refine ⟨_, rfl, _, _, rfl, rfl, by show x.length + 1 ≤ sizeLine; rw [sizeLine_eq]; omega, ?_⟩
        refine ⟨_, rfl, 1, rfl, x, rfl, by rw [sizeLine_eq]; omega, ?_⟩
        refine ⟨_, rfl, _, _, rfl, rfl, by show x.length + 1 ≤ sizeLine; rw [sizeLine_eq]; omega, ?_⟩
        refine ⟨_, rfl, _, _, rfl, rfl, by show x.length + 1 ≤ sizeLine; rw [sizeLine_eq]; omega, ?_⟩
        refine ⟨_, rfl, 1, rfl, x, rfl, by rw [sizeLine_eq]; omega, ?_⟩
        refine ⟨(by show 5 ≤ sizeLine; decide), fun t2 ht2 => ?_⟩
        have s3 : Same H1 (upd H1 t2 (.tup [.str (x ++ "a"), .str (cutS x (some 1) none), .str (x ++ "A"), .str (x ++ " "), .str (cutS x none (some 1))])) := Same.one ht2
        have nt2 := p1.ne ht2
        refine ⟨_, rfl, pl, sc, 5, rfl, p1.same s3, by decide, by decide, fun H5 r5 b5 p5 hr5 => ?_⟩
        obtain ⟨v5, hv5⟩ : ∃ v, ([.str (x ++ "a"), .str (cutS x (some 1) none), .str (x ++ "A"), .str (x ++ " "), .str (cutS x none (some 1))] : List V)[r5]? = some v := ⟨_, List.getElem?_eq_getElem hr5⟩
        refine ⟨t2, _, _, v5, rfl, rfl, sqt_new (b5.at upd_same nt2), atI_nat hv5, ?_⟩
        refine q H5 v5 (b1.trans ((s3.but pl).trans b5)) p5 ?_
        have l1 : ∀ c : Str, c.length = 1 → (x ++ c).length ≤ 1000 := fun c hc => by rw [str_app_len, hc]; omega
        have hm5 := List.mem_of_getElem? hv5
        simp only [List.mem_cons, List.not_mem_nil, or_false] at hm5
        rcases hm5 with rfl | rfl | rfl | rfl | rfl
        · exact xs_str (l1 _ (by decide +kernel)) (str_app_ok hxo (by decide +kernel))
        · exact xs_str (by have := cutS_length x (some 1) none; omega) (cutS_ok hxo)
        · exact xs_str (l1 _ (by decide +kernel)) (str_app_ok hxo (by decide +kernel))
        · exact xs_str (l1 _ (by decide +kernel)) (str_app_ok hxo (by decide +kernel))
        · exact xs_str (by have := cutS_length x none (some 1); omega) (cutS_ok hxo)
    have htS := ht.sml
    obtain ⟨hl, m', rfl, hi⟩ := ht.inn
    obtain ⟨a, ys, rfl, ha, hys⟩ := vx_tup (.inl hd)
    have hln := hys.len
    have hyH : ∀ {H' : Hp}, But pl H H' → Vx K H' (.ref a) (.tuple ds) := fun bb => (Dp.same (Dp.same hd (hidS_but hpl bb)) (hidS_le S _)).x
    have haH : ∀ {H' : Hp}, But pl H H' → SqT K H' a ys := fun bb => (hidS_le S _).sqt (L2.Same.sqt (hidS_but hpl bb) ha)
    refine iteT ⟨_, rfl, a, _, rfl, .inr (haH (But.refl pl H)), _, _, rfl, rfl, _, rfl, ?_⟩
    rw [hln]
    by_cases hz : ds.length = 0
    · have b0 := But.refl pl H
      refine ite2 (fun z => absurd (of_decide_eq_true z) (by omega)) (fun _ => ?_)
      refine ⟨_, rfl, pl, sc, 9, rfl, hp, by decide, by decide, fun H1 r1 b1 p1 hr1 => ⟨_, rfl, rfl, _, rfl, ?_⟩⟩
      have oc1 := oc.but b1 p1
      refine ite2 (fun _ => ?_) (fun _ => ?_)
      · refine ⟨Nat.zero_le _, fun t1 ht1 => ⟨_, rfl, Nat.zero_le _, fun l hl1 => ⟨(by show 10 ≤ sizeLine; decide), fun t2 ht2 => ?_⟩⟩⟩
        have s1 : Same H1 (upd H1 t1 (.tup [])) := Same.one ht1
        have s2 : Same _ (upd (upd H1 t1 (.tup [])) l (.lst [])) := Same.one hl1
        have s3 : Same _ (upd (upd (upd H1 t1 (.tup [])) l (.lst [])) t2 (.tup [.str "x", .bl true, .ref t1, .int 0, .int (-1), .non, .bl false, .ref l, .str "in", .int 1])) := Same.one ht2
        have s13 := (s1.trans s2).trans s3
        have p4 := p1.same s13
        have nt1 := oc1.ne ht1
        have nl1 := (oc1.same s1).ne hl1
        have nt2 := p1.same (s1.trans s2) |>.ne ht2
        have e1 := s3 _ _ (s2 t1 _ upd_same)
        have e2 := s3 l _ upd_same
        refine ⟨_, rfl, pl, sc, 10, rfl, p4, by decide, by decide, fun H5 r5 b5 p5 hr5 => ?_⟩
        obtain ⟨v5, hv5⟩ : ∃ v, ([.str "x", .bl true, .ref t1, .int 0, .int (-1), .non, .bl false, .ref l, .str "in", .int 1] : List V)[r5]? = some v := ⟨_, List.getElem?_eq_getElem hr5⟩
        refine ⟨t2, _, _, v5, rfl, rfl, sqt_new (b5.at upd_same nt2), atI_nat hv5, ?_⟩
        refine q H5 v5 ((b0.trans b1).trans ((s13.but pl).trans b5)) p5 (Xs.but (pl := pl) ?_ hpl b5)
        have hm5 := List.mem_of_getElem? hv5
        simp only [List.mem_cons, List.not_mem_nil, or_false] at hm5
        rcases hm5 with rfl | rfl | rfl | rfl | rfl | rfl | rfl | rfl | rfl | rfl
        · exact xs_str (by decide +kernel) (by decide +kernel)
        · exact ⟨_, .bl _, .bl _⟩
        · exact ⟨.tuple [], .tup (sqt_new (by rw [hidS_at nt1]; exact e1)) .nil, .tup (by simp) (by simp)⟩
        · exact ⟨_, .int _, .int _⟩
        · exact ⟨_, .int _, .int _⟩
        · exact ⟨_, .non, .non⟩
        · exact ⟨_, .bl _, .bl _⟩
        · exact ⟨.list [], .lst (sql_new (by rw [hidS_at nl1]; exact e2)) .nil, .lst (by simp) (by simp)⟩
        · exact xs_str (by decide +kernel) (by decide +kernel)
        · exact ⟨_, .int _, .int _⟩
      · refine ⟨_, rfl, .ref a, .tuple ds, rfl, hyH b1, _, rfl, iteF ?_⟩
        refine ⟨_, rfl, .ref a, _, _, _, false, rfl, .ty _, tyx (hyH b1), ki_str (.tuple ds), _, rfl, iteF ?_⟩
        refine ⟨_, rfl, .ref a, _, _, _, true, rfl, .ty _, tyx (hyH b1), ki_tup (.tuple ds), _, rfl, iteF ?_⟩
        refine ⟨_, rfl, a, _, rfl, .inr (haH b1), rfl, _, rfl, ?_⟩
        rw [dI, hln]
        refine ite2 (fun _ => ?_) (fun z => absurd (decide_eq_true (by omega)) z)
        refine ⟨_, rfl, _, _, rfl, rfl, _, rfl, ?_⟩
        refine ite2 (fun _ => ?_) (fun _ => ?_)
        · refine ⟨_, rfl, (by show 2 ≤ sizeLine; decide), fun t ht' => ?_⟩
          have nt := oc1.ne ht'
          refine q _ _ (b1.trans ((Same.one ht').but pl)) (p1.same (Same.one ht')) ⟨.tuple [.tuple ds, .int 0], .tup (sqt_new (by rw [hidS_at nt]; exact upd_same)) (.cons (Dp.same hd ((hidS_but hpl b1).trans (hidS_new ht'))) (.cons (.int 0) .nil)), .tup (by simp) fun d hd => ?_⟩
          simp at hd
          rcases hd with rfl | rfl
          · exact htS
          · exact .int 0
        · refine ⟨Nat.zero_le _, fun t ht' => ?_⟩
          have nt := oc1.ne ht'
          exact q _ _ (b1.trans ((Same.one ht').but pl)) (p1.same (Same.one ht')) ⟨.tuple [], .tup (sqt_new (by rw [hidS_at nt]; exact upd_same)) .nil, .tup (by simp) (by simp)⟩
    refine ite2 (fun _ => ?_) (fun z => absurd (decide_eq_true (by omega)) z)
    refine ⟨_, rfl, pl, sc, 4, rfl, hp, by decide, by decide, fun H0 r0 b0 p0 hr0 => ⟨_, _, rfl, rfl, _, rfl, ?_⟩⟩
    refine ite2 (fun _ => ?_) (fun _ => ?_)
    · refine ⟨_, rfl, _, rfl, a, _, rfl, .inr (haH b0), pl, sc, ds.length, by rw [← hln]; rfl, p0, by omega, by omega, fun H2 r2 b2 p2 hr2 => ?_⟩
      have b12 := b0.trans b2
      have oc2 := oc.but b12 p2
      obtain ⟨di, hdi⟩ : ∃ di, ds[r2]? = some di := ⟨_, List.getElem?_eq_getElem hr2⟩
      obtain ⟨y, hy, ky⟩ := hys.at2 hdi
      have hmem := List.mem_of_getElem? hdi
      refine ⟨_, rfl, _, rfl, (r2 : Nat), rfl, ds, hd.same (hidS_but hpl b12), oc2, fun p3 H3 s3 d3 => ?_⟩
      have b3 := b12.trans (s3.but pl)
      have oc3 := oc2.same s3
      have pp3 := p2.same s3
      refine ⟨_, rfl, _, rfl, _, rfl, a, _, _, y, rfl, rfl, haH b3, at_v hy rfl, S, pl, sc, y, di, m', rfl, by omega, hpl, pp3, ky.same (hidS_but hpl b3), hi di hmem, oc3, fun H4 v4 b4 p4 x4 => ?_⟩
      refine ⟨(by show 1 ≤ sizeLine; decide), fun t5 ht5 => ?_⟩
      have s5 : Same H4 (upd H4 t5 (.tup [v4])) := Same.one ht5
      have b34 := b4.trans (s5.but pl)
      have oc4 := oc3.but b4 p4
      have nt5 := oc4.ne ht5
      obtain ⟨d4, hd4, sm4⟩ := x4
      refine ⟨_, [d4], d3.same (hidS_but hpl b34), .tup (sqt_new (by rw [hidS_at nt5]; exact upd_same)) (.cons (hd4.same (hidS_same s5)) .nil), oc4.same s5, by have := cutD_len ds none (some ((r2 : Nat) : Int)); rw [sizeLine_eq]; simp; omega, fun p6 H6 s6 d6 => ?_⟩
      have b36 := b34.trans (s6.but pl)
      refine ⟨_, rfl, _, rfl, _, _, rfl, rfl, _, rfl, ds, hd.same (hidS_but hpl (b3.trans b36)), (oc4.same s5).same s6, fun p7 H7 s7 d7 => ?_⟩
      refine ⟨_, _, d6.same (hidS_same s7), d7, ((oc4.same s5).same s6).same s7, by have := cutD_len ds none (some ((r2 : Nat) : Int)); have := cutD_len ds (some (((r2 : Nat) : Int) + 1)) none; rw [sizeLine_eq, List.length_append]; simp; omega, fun p8 H8 s8 d8 => ?_⟩
      refine q H8 _ (((b3.trans b36).trans (s7.but pl)).trans (s8.but pl)) ((((p4.same s5).same s6).same s7).same s8) ⟨_, d8, ?_⟩
      exact sml3 (Nat.le_trans (cutD_len _ _ _) hl) (Nat.le_trans (cutD_len _ _ _) hl) (fun x hx => (hi x (cutD_mem hx)).sml) sm4 (fun x hx => (hi x (cutD_mem hx)).sml)
    refine ⟨_, rfl, pl, sc, 9, rfl, p0, by decide, by decide, fun H1 r1 b1 p1 hr1 => ⟨_, rfl, rfl, _, rfl, ?_⟩⟩
    have oc1 := oc.but (b0.trans b1) p1
    refine ite2 (fun _ => ?_) (fun _ => ?_)
    · refine ⟨Nat.zero_le _, fun t1 ht1 => ⟨_, rfl, Nat.zero_le _, fun l hl1 => ⟨(by show 10 ≤ sizeLine; decide), fun t2 ht2 => ?_⟩⟩⟩
      have s1 : Same H1 (upd H1 t1 (.tup [])) := Same.one ht1
      have s2 : Same _ (upd (upd H1 t1 (.tup [])) l (.lst [])) := Same.one hl1
      have s3 : Same _ (upd (upd (upd H1 t1 (.tup [])) l (.lst [])) t2 (.tup [.str "x", .bl true, .ref t1, .int 0, .int (-1), .non, .bl false, .ref l, .str "in", .int 1])) := Same.one ht2
      have s13 := (s1.trans s2).trans s3
      have p4 := p1.same s13
      have nt1 := oc1.ne ht1
      have nl1 := (oc1.same s1).ne hl1
      have nt2 := p1.same (s1.trans s2) |>.ne ht2
      have e1 := s3 _ _ (s2 t1 _ upd_same)
      have e2 := s3 l _ upd_same
      refine ⟨_, rfl, pl, sc, 10, rfl, p4, by decide, by decide, fun H5 r5 b5 p5 hr5 => ?_⟩
      obtain ⟨v5, hv5⟩ : ∃ v, ([.str "x", .bl true, .ref t1, .int 0, .int (-1), .non, .bl false, .ref l, .str "in", .int 1] : List V)[r5]? = some v := ⟨_, List.getElem?_eq_getElem hr5⟩
      refine ⟨t2, _, _, v5, rfl, rfl, sqt_new (b5.at upd_same nt2), atI_nat hv5, ?_⟩
      refine q H5 v5 ((b0.trans b1).trans ((s13.but pl).trans b5)) p5 (Xs.but (pl := pl) ?_ hpl b5)
      have hm5 := List.mem_of_getElem? hv5
      simp only [List.mem_cons, List.not_mem_nil, or_false] at hm5
      rcases hm5 with rfl | rfl | rfl | rfl | rfl | rfl | rfl | rfl | rfl | rfl
      · exact xs_str (by decide +kernel) (by decide +kernel)
      · exact ⟨_, .bl _, .bl _⟩
      · exact ⟨.tuple [], .tup (sqt_new (by rw [hidS_at nt1]; exact e1)) .nil, .tup (by simp) (by simp)⟩
      · exact ⟨_, .int _, .int _⟩
      · exact ⟨_, .int _, .int _⟩
      · exact ⟨_, .non, .non⟩
      · exact ⟨_, .bl _, .bl _⟩
      · exact ⟨.list [], .lst (sql_new (by rw [hidS_at nl1]; exact e2)) .nil, .lst (by simp) (by simp)⟩
      · exact xs_str (by decide +kernel) (by decide +kernel)
      · exact ⟨_, .int _, .int _⟩
    have b01 := b0.trans b1
    refine ⟨_, rfl, .ref a, .tuple ds, rfl, hyH b01, _, rfl, iteF ?_⟩
    refine ⟨_, rfl, .ref a, _, _, _, false, rfl, .ty _, tyx (hyH b01), ki_str (.tuple ds), _, rfl, iteF ?_⟩
    refine ⟨_, rfl, .ref a, _, _, _, true, rfl, .ty _, tyx (hyH b01), ki_tup (.tuple ds), _, rfl, iteF ?_⟩
    refine ⟨_, rfl, a, _, rfl, .inr (haH b01), rfl, _, rfl, ?_⟩
    rw [dI, hln]
    refine ite2 (fun z => absurd (of_decide_eq_true z) (by omega)) (fun _ => ?_)
    refine ⟨_, rfl, _, rfl, a, _, rfl, .inr (haH b01), pl, sc, ds.length, by rw [← hln]; rfl, p1, by omega, by omega, fun H2 r2 b2 p2 hr2 => ?_⟩
    have b12 := b01.trans b2
    have oc2 := oc.but b12 p2
    obtain ⟨di, hdi⟩ : ∃ di, ds[r2]? = some di := ⟨_, List.getElem?_eq_getElem hr2⟩
    obtain ⟨y, hy, ky⟩ := hys.at2 hdi
    have hmem := List.mem_of_getElem? hdi
    refine ⟨_, rfl, _, _, rfl, rfl, _, rfl, ?_⟩
    refine ite2 (fun _ => ?_) (fun _ => ?_)
    · refine ⟨_, rfl, _, rfl, (r2 : Nat), rfl, ds, hd.same (hidS_but hpl b12), oc2, fun p3 H3 s3 d3 => ?_⟩
      refine ⟨_, rfl, _, rfl, _, _, rfl, rfl, _, rfl, ds, hd.same (hidS_but hpl (b12.trans (s3.but pl))), oc2.same s3, fun p7 H7 s7 d7 => ?_⟩
      refine ⟨_, _, d3.same (hidS_same s7), d7, (oc2.same s3).same s7, by have := cutD_len ds none (some ((r2 : Nat) : Int)); have := cutD_len ds (some (((r2 : Nat) : Int) + 1)) none; rw [sizeLine_eq]; omega, fun p8 H8 s8 d8 => ?_⟩
      refine q H8 _ ((b12.trans ((s3.trans s7).but pl)).trans (s8.but pl)) (((p2.same s3).same s7).same s8) ⟨_, d8, ?_⟩
      exact sml2 (Nat.le_trans (cutD_len _ _ _) hl) (Nat.le_trans (cutD_len _ _ _) hl) (fun x hx => (hi x (cutD_mem hx)).sml) (fun x hx => (hi x (cutD_mem hx)).sml)
    refine ⟨_, rfl, _, _, rfl, rfl, _, rfl, ?_⟩
    refine ite2 (fun _ => ?_) (fun _ => ?_)
    · refine ⟨_, rfl, _, rfl, (r2 : Nat), rfl, ds, hd.same (hidS_but hpl b12), oc2, fun p3 H3 s3 d3 => ?_⟩
      have b3 := b12.trans (s3.but pl)
      refine ⟨_, rfl, _, rfl, a, _, _, y, rfl, rfl, haH b3, at_v hy rfl, (by show 1 ≤ sizeLine; decide), fun t5 ht5 => ?_⟩
      have s5 : Same H3 (upd H3 t5 (.tup [y])) := Same.one ht5
      have oc3 := oc2.same s3
      have nt5 := oc3.ne ht5
      refine ⟨_, [di], d3.same (hidS_same s5), .tup (sqt_new (by rw [hidS_at nt5]; exact upd_same)) (.cons (ky.same (hidS_but hpl (b3.trans (s5.but pl)))) .nil), oc3.same s5, by have := cutD_len ds none (some ((r2 : Nat) : Int)); rw [sizeLine_eq]; simp; omega, fun p6 H6 s6 d6 => ?_⟩
      have b6 := b3.trans ((s5.trans s6).but pl)
      refine ⟨_, rfl, _, rfl, (r2 : Nat), rfl, ds, hd.same (hidS_but hpl b6), (oc3.same s5).same s6, fun p7 H7 s7 d7 => ?_⟩
      refine ⟨_, _, d6.same (hidS_same s7), d7, ((oc3.same s5).same s6).same s7, by have := cutD_len ds none (some ((r2 : Nat) : Int)); have := cutD_len ds (some ((r2 : Nat) : Int)) none; rw [sizeLine_eq, List.length_append]; simp; omega, fun p8 H8 s8 d8 => ?_⟩
      refine q H8 _ (b6.trans ((s7.trans s8).but pl)) (((((p2.same s3).same s5).same s6).same s7).same s8) ⟨_, d8, ?_⟩
      exact sml3 (Nat.le_trans (cutD_len _ _ _) hl) (Nat.le_trans (cutD_len _ _ _) hl) (fun x hx => (hi x (cutD_mem hx)).sml) (hi di hmem).sml (fun x hx => (hi x (cutD_mem hx)).sml)
    refine ⟨_, rfl, rfl, _, rfl, ?_⟩
    refine ite2 (fun _ => ?_) (fun _ => ?_)
    · refine ⟨_, rfl, a, _, rfl, .inr (haH b12), fun l hl4 => ?_⟩
      have nl := oc2.ne hl4
      exact q _ _ (b12.trans ((Same.one hl4).but pl)) (p2.same (Same.one hl4)) ⟨.list ds, .lst (sql_new (by rw [hidS_at nl]; exact upd_same)) (hys.same ((hidS_but hpl b12).trans (hidS_new hl4))), .lst (by omega) fun d hd => (hi d hd).sml⟩
    refine ⟨_, rfl, _, rfl, a, _, rfl, .inr (haH b12), pl, sc, ds.length, by rw [← hln]; rfl, p2, by omega, by omega, fun H3 r4 b3 p3 hr4 => ?_⟩
    have b13 := b12.trans b3
    have oc3 := oc2.but b3 p3
    obtain ⟨dj, hdj⟩ : ∃ dj, ds[r4]? = some dj := ⟨_, List.getElem?_eq_getElem hr4⟩
    obtain ⟨z, hz4, kz⟩ := hys.at2 hdj
    have hmem4 := List.mem_of_getElem? hdj
    refine ⟨_, rfl, a, _, rfl, .inr (haH b13), fun l hl4 => ?_⟩
    have nl := oc3.ne hl4
    have s4 : Same H3 (upd H3 l (.lst ys)) := Same.one hl4
    have e5 : (upd H3 l (.lst ys)) l = some (.lst ys) := upd_same
    have p5 := p3.same s4
    have oc5 := oc3.same s4
    have b15 := b13.trans (s4.but pl)
    have nlp : l ≠ pl := p3.ne hl4
    have nls : sc ≠ l := p3.nes hl4
    have hys5 := hys.same (hidS_but hpl b15)
    have kz5 := kz.same (hidS_but hpl b15)
    have ky5 := ky.same (hidS_but hpl b15)
    have nlH : H l = none := by
      cases hq : H l with
      | none => rfl
      | some o =>
        have := b13.at hq nlp
        rw [hl4] at this; cases this
    revert e5 p5 oc5 b15 hys5 kz5 ky5
    generalize upd H3 l (.lst ys) = G5
    intro e5 p5 oc5 b15 hys5 kz5 ky5
    have b16 := b15.upd_new (o := .lst (ys.set r2 z)) nlH nlp
    refine ⟨_, rfl, _, rfl, a, _, _, z, rfl, rfl, haH b15, at_v hz4 rfl, _, rfl, _, rfl, l, ys, _, r2, rfl, rfl, e5, ixN_nat (by omega), ?_⟩
    refine ⟨_, rfl, _, rfl, a, _, _, y, rfl, rfl, haH b16, at_v hy rfl, _, rfl, _, rfl, l, _, _, r4, rfl, rfl, upd_same, ixN_nat (by rw [List.length_set]; omega), ?_⟩
    have nlS : ∀ d ∈ ds, NoL d := fun d hd => (hi d hd).noL
    have g6 : (hidS S G5) l = some (.lst ys) := by rw [hidS_at nl]; exact e5
    have h6 := dps_upd (o := .lst (ys.set r2 z)) g6 _ _ hys5 nlS
    have kz6 := dp_upd (o := .lst (ys.set r2 z)) g6 _ _ kz5 (nlS dj hmem4)
    have ky6 := dp_upd (o := .lst (ys.set r2 z)) g6 _ _ ky5 (nlS di hmem)
    have h6' := dps_set r2 h6 kz6
    have nlS' : ∀ d ∈ ds.set r2 dj, NoL d := fun d hd => by
      rcases List.mem_or_eq_of_mem_set hd with h | h
      · exact nlS d h
      · subst h; exact nlS d hmem4
    have g7 : (upd (hidS S G5) l (.lst (ys.set r2 z))) l = some (.lst (ys.set r2 z)) := upd_same
    have h7 := dps_set r4 (dps_upd (o := .lst ((ys.set r2 z).set r4 y)) g7 _ _ h6' nlS') (dp_upd (o := .lst ((ys.set r2 z).set r4 y)) g7 _ _ ky6 (nlS di hmem))
    rw [← hidS_upd nl, ← hidS_upd nl] at h7
    have p7 := (p5.upd (o := .lst (ys.set r2 z)) nlp nls).upd (o := .lst ((ys.set r2 z).set r4 y)) nlp nls
    have oc7 : Occ S (upd (upd G5 l (.lst (ys.set r2 z))) l (.lst ((ys.set r2 z).set r4 y))) := fun x hx => by
      obtain ⟨o, ho⟩ := oc5 x hx
      have : x ≠ l := fun e => nl (by rw [← e]; exact hx)
      exact ⟨o, by rw [upd_ne this, upd_ne this]; exact ho⟩
    have b17 := b16.upd_new (o := .lst ((ys.set r2 z).set r4 y)) nlH nlp
    refine ⟨_, rfl, l, _, rfl, .inl ⟨sql_new upd_same, fun p hp8 => ?_⟩⟩
    have np8 := oc7.ne hp8
    refine q _ _ (b17.trans ((Same.one hp8).but pl)) (p7.same (Same.one hp8)) ⟨_, .tup (sqt_new (by rw [hidS_at np8]; exact upd_same)) (h7.same (hidS_new hp8)), ?_⟩
    exact .tup (by rw [List.length_set, List.length_set]; omega) fun x hx => (hi x (mem_set2 hmem4 hmem hx)).sml
theorem ok_bent : ∀ n, FnOk P w K mg base CX0 (n + 3) (He.ga K "_law_bent") T.d__law_bent ["pool", "value"] (spSwapped K n)
  | 0 => by
    refine T.F__law_bent.ok sc_law_bent (fun vs H Q E h => ?_) (fun cdv A outer s H vs Q E hr h => ?_)
    · obtain ⟨S, pl, sc, v, d, m, rfl, _⟩ := h; rfl
    · obtain ⟨S, pl, sc, v, d, m, _, hm, _⟩ := h; exact absurd hm (by omega)
  | n + 1 => bent_step T n (ok_bent n)
end
end K01

set_option Elab.async false
set_option linter.all false
set_option maxRecDepth 100000
set_option maxHeartbeats 4000000
namespace K01
open PySem PySem.Spec PyProof.Rows L2
theorem hidS_fresh {S : List Addr} {H : Hp} {D : Addr} (h : H D = none) : Same (hidS S H) (hidS (D :: S) H) := fun a o q => by
  by_cases e : a ∈ S
  · rw [hidS_in e] at q; cases q
  · rw [hidS_at e] at q
    have : a ∉ D :: S := fun z => by
      rcases List.mem_cons.mp z with z | z
      · subst z; rw [h] at q; cases q
      · exact e z
    rw [hidS_at this]; exact q
theorem Xs.fresh {K : PySem.W.Frag} {S : List Addr} {H : Hp} {v : V} {D : Addr} (h : Xs K S H v) (hD : H D = none) : Xs K (D :: S) H v := let ⟨d, a, b⟩ := h; ⟨d, a.same (hidS_fresh hD), b⟩
theorem xs_strs {K : PySem.W.Frag} {S : List Addr} {H : Hp} {t : Addr} (l : List Str) (h : H t = some (.tup (l.map V.str))) (n : t ∉ S) (g : (l.all fun x => decide (x.length ≤ 20) && PyData.strOk x) = true) (hl : l.length ≤ 10) : Xs K S H (.ref t) :=
  ⟨.tuple (sds l), .tup (sqt_new (by rw [hidS_at n]; exact h)) (dps_strs l), (tv_sds (n := 0) hl fun x hx => by
    have := List.all_eq_true.mp g x hx
    rw [Bool.and_eq_true, decide_eq_true_eq] at this
    exact this).sml⟩
def spBends (K : PySem.W.Frag) : Sp := fun vs H Q _ => ∃ (pl sc : Addr) (v : V) (k : Kd), vs = [.ref pl, v] ∧ Pool pl sc H ∧ Kv K pl H v k ∧ rank k ≤ 4 ∧
  ∀ H' l xs, But pl H H' → Pool pl sc H' → H' l = some (.lst xs) → xs.length ≤ 100 → (∀ x ∈ xs, Xs K [pl] H' x) → Q (.ref l) H'
section
variable {P : Program} {w : World} {K : PySem.W.Frag} {mg : Str → Option Value} {base : Heap} (T : Txt K mg)
include T
theorem ok_bends : FnOk P w K mg base CX0 16 (He.ga K "_law_bends") T.d__law_bends ["pool", "sample"] (spBends K) := by
  have G__law_changed := ok_changed (P := P) (w := w) (base := base) T 11
  have G__law_swapped := ok_swapped (P := P) (w := w) (base := base) T 11
  have G__law_bent := ok_bent (P := P) (w := w) (base := base) T 11
  have G__law_listed := ok_listed (P := P) (w := w) (base := base) T 11
  have G__law_booled := ok_booled (P := P) (w := w) (base := base) T 11
  refine T.F__law_bends.ok sc_law_bends (fun vs H Q E h => ?_) (fun cdv A outer s H vs Q E hr h => ?_)
  · obtain ⟨pl, sc, v, k, rfl, _⟩ := h; rfl
  · obtain ⟨pl, sc, v, k, rfl, hp, kv, hk, q⟩ := h
    obtain ⟨S, hS⟩ : ∃ S : List Addr, S = [pl] := ⟨_, rfl⟩
    have hpl : pl ∈ S := by rw [hS]; exact List.mem_cons_self
    have oc0 : Occ S H := fun a ha => by
      rw [hS] at ha; simp at ha; subst ha
      obtain ⟨_, _, _, _, _, h1, _⟩ := hp
      exact ⟨_, h1⟩
    have hd : Dp K (hidS S H) v (toD k) := Dp.same kv fun a o ho => by
      have := hid_some ho
      rw [hid_at this] at ho
      rw [hidS_at (by rw [hS]; simpa using this)]; exact ho
    have tv : Tv 10 (toD k) := tv_toD k 4 hk
    have nL := noL_toD k
    have hsm := tv.sml
    obtain ⟨ds, eds⟩ : ∃ ds, toD k = .tuple ds := ⟨_, toD_eq k⟩
    rw [eds] at hd tv nL hsm
    obtain ⟨hl, _, _, _⟩ := id tv.inn
    obtain ⟨a, ys, rfl, ha, hys⟩ := vx_tup (.inl hd)
    have hln := hys.len
    refine ⟨_, PSs.nox (pss_cons (ps_set (i := 2) sc_law_bends.nd rfl (.inr rfl) (pe_lst (pa_cons pe_int (pa_cons pe_int (pa_cons pe_int (pa_cons (pe_un un_neg pe_int) (pa_cons pe_int (pa_cons pe_str (pa_cons pe_str (pa_cons pe_str (pa_cons pe_str (pa_cons (pe_tup pa_nil) (pa_cons (pe_tup (pa_cons pe_str pa_nil)) (pa_cons (pe_tup (pa_cons pe_str pa_nil)) (pa_cons (pe_tup (pa_cons pe_str pa_nil)) (pa_cons (pe_tup (pa_cons pe_str pa_nil)) (pa_cons (pe_tup (pa_cons pe_str (pa_cons pe_str pa_nil))) (pa_cons (pe_tup (pa_cons pe_str (pa_cons pe_int pa_nil))) (pa_cons (pe_tup (pa_cons pe_str (pa_cons pe_str (pa_cons pe_str pa_nil)))) (pa_cons pe_non (pa_cons pe_bl pa_nil)))))))))))))))))))))
    (pss_cons (ps_set (i := 3) sc_law_bends.nd rfl (.inl rfl) (pe_lst (pa_cons (pe_callTy (r := rListOf K) call_list_of (by rfl) T.list (by decide +kernel) (pa_cons (pv 1) pa_nil)) (pa_cons (pe_slice (sl_tupD S) (pv 1) (po_some pe_int) po_none) (pa_cons (pe_slice (sl_tupD S) (pv 1) po_none (po_some (pe_un un_neg pe_int))) (pa_cons (pe_op (r := rCatD K S) (op_catD S) (pv 1) (pe_slice (sl_tupD S) (pv 1) (po_some (pe_un un_neg pe_int)) po_none)) (pa_cons (pe_tup (pa_cons (pv 1) pa_nil)) (pa_cons (pe_call G__law_listed (hr.mono (by omega)) (by rfl) T.g__law_listed T.F__law_listed.kp T.b__law_listed .nil pass0 (pa_cons (pv 1) (pa_cons pe_int pa_nil))) (pa_cons (pe_call G__law_listed (hr.mono (by omega)) (by rfl) T.g__law_listed T.F__law_listed.kp T.b__law_listed .nil pass0 (pa_cons (pv 1) (pa_cons pe_int pa_nil))) (pa_cons (pe_call G__law_booled (hr.mono (by omega)) (by rfl) T.g__law_booled T.F__law_booled.kp T.b__law_booled .nil pass0 (pa_cons (pv 1) pa_nil)) (pa_cons (pe_tup pa_nil) pa_nil)))))))))))
    (pss_cons (ps_set (i := 3) sc_law_bends.nd rfl (.inl rfl) (pe_op op_cat (pe_op op_cat (pv 3) (pe_lc (own := [("k", 4)]) (g := gName 4) (tt := tYes) (by rfl) sc_law_bends.nd (pi_range1 (by rfl) T.range (pa_cons pe_int pa_nil)) (blkOk_by (own := [("k", 4)]) (N := ["pool", "sample", "things", "found", "k"]) (sc := defScope s_law_bends) (by decide +kernel)) (fun _ _ _ _ _ => (pg_name (i := 4) sc_law_bends.nd rfl (.inl rfl))) (fun _ _ _ _ _ => pts_nil) (fun _ _ _ _ _ => (pe_call G__law_changed (hr.mono (by omega)) (by rfl) T.g__law_changed T.F__law_changed.kp T.b__law_changed .nil pass0 (pa_cons (pv 0) (pa_cons (pv 1) (pa_cons (pv 2) pa_nil))))))) (pe_lc (own := [("k", 4)]) (g := gName 4) (tt := tYes) (by rfl) sc_law_bends.nd (pi_range1 (by rfl) T.range (pa_cons pe_int pa_nil)) (blkOk_by (own := [("k", 4)]) (N := ["pool", "sample", "things", "found", "k"]) (sc := defScope s_law_bends) (by decide +kernel)) (fun _ _ _ _ _ => (pg_name (i := 4) sc_law_bends.nd rfl (.inl rfl))) (fun _ _ _ _ _ => pts_nil) (fun _ _ _ _ _ => (pe_call G__law_swapped (hr.mono (by omega)) (by rfl) T.g__law_swapped T.F__law_swapped.kp T.b__law_swapped .nil pass0 (pa_cons (pv 0) (pa_cons (pv 1) pa_nil)))))))
    (pss_one (ps_ret (pe_op op_cat (pv 3) (pe_lc (own := [("k", 4)]) (g := gName 4) (tt := tYes) (by rfl) sc_law_bends.nd (pi_range1 (by rfl) T.range (pa_cons pe_int pa_nil)) (blkOk_by (own := [("k", 4)]) (N := ["pool", "sample", "things", "found", "k"]) (sc := defScope s_law_bends) (by decide +kernel)) (fun _ _ _ _ _ => (pg_name (i := 4) sc_law_bends.nd rfl (.inl rfl))) (fun _ _ _ _ _ => pts_nil) (fun _ _ _ _ _ => (pe_call G__law_bent (hr.mono (by omega)) (by rfl) T.g__law_bent T.F__law_bent.kp T.b__law_bent .nil pass0 (pa_cons (pv 0) (pa_cons (pv 1) pa_nil))))))))))), ?_⟩
    refine ⟨_, rfl, Nat.zero_le _, fun t1 h1 => ⟨(by show 1 ≤ sizeLine; decide), fun t2 h2 => ⟨(by show 1 ≤ sizeLine; decide), fun t3 h3 => ⟨(by show 1 ≤ sizeLine; decide), fun t4 h4 => ⟨(by show 1 ≤ sizeLine; decide), fun t5 h5 => ⟨(by show 2 ≤ sizeLine; decide), fun t6 h6 => ⟨(by show 2 ≤ sizeLine; decide), fun t7 h7 => ⟨(by show 3 ≤ sizeLine; decide), fun t8 h8 => ⟨(by show 19 ≤ sizeLine; decide), fun th hth => ?_⟩⟩⟩⟩⟩⟩⟩⟩⟩
    have s1 : Same (H) (upd (H) t1 (.tup [])) := Same.one h1
    have s2 : Same (upd (H) t1 (.tup [])) (upd (upd (H) t1 (.tup [])) t2 (.tup [.str "int"])) := Same.one h2
    have s3 : Same (upd (upd (H) t1 (.tup [])) t2 (.tup [.str "int"])) (upd (upd (upd (H) t1 (.tup [])) t2 (.tup [.str "int"])) t3 (.tup [.str "bool"])) := Same.one h3
    have s4 : Same (upd (upd (upd (H) t1 (.tup [])) t2 (.tup [.str "int"])) t3 (.tup [.str "bool"])) (upd (upd (upd (upd (H) t1 (.tup [])) t2 (.tup [.str "int"])) t3 (.tup [.str "bool"])) t4 (.tup [.str "nothing"])) := Same.one h4
    have s5 : Same (upd (upd (upd (upd (H) t1 (.tup [])) t2 (.tup [.str "int"])) t3 (.tup [.str "bool"])) t4 (.tup [.str "nothing"])) (upd (upd (upd (upd (upd (H) t1 (.tup [])) t2 (.tup [.str "int"])) t3 (.tup [.str "bool"])) t4 (.tup [.str "nothing"])) t5 (.tup [.str "rest"])) := Same.one h5
    have s6 : Same (upd (upd (upd (upd (upd (H) t1 (.tup [])) t2 (.tup [.str "int"])) t3 (.tup [.str "bool"])) t4 (.tup [.str "nothing"])) t5 (.tup [.str "rest"])) (upd (upd (upd (upd (upd (upd (H) t1 (.tup [])) t2 (.tup [.str "int"])) t3 (.tup [.str "bool"])) t4 (.tup [.str "nothing"])) t5 (.tup [.str "rest"])) t6 (.tup [.str "name", .str "p"])) := Same.one h6
    have s7 : Same (upd (upd (upd (upd (upd (upd (H) t1 (.tup [])) t2 (.tup [.str "int"])) t3 (.tup [.str "bool"])) t4 (.tup [.str "nothing"])) t5 (.tup [.str "rest"])) t6 (.tup [.str "name", .str "p"])) (upd (upd (upd (upd (upd (upd (upd (H) t1 (.tup [])) t2 (.tup [.str "int"])) t3 (.tup [.str "bool"])) t4 (.tup [.str "nothing"])) t5 (.tup [.str "rest"])) t6 (.tup [.str "name", .str "p"])) t7 (.tup [.str "number", .int 3])) := Same.one h7
    have s8 : Same (upd (upd (upd (upd (upd (upd (upd (H) t1 (.tup [])) t2 (.tup [.str "int"])) t3 (.tup [.str "bool"])) t4 (.tup [.str "nothing"])) t5 (.tup [.str "rest"])) t6 (.tup [.str "name", .str "p"])) t7 (.tup [.str "number", .int 3])) (upd (upd (upd (upd (upd (upd (upd (upd (H) t1 (.tup [])) t2 (.tup [.str "int"])) t3 (.tup [.str "bool"])) t4 (.tup [.str "nothing"])) t5 (.tup [.str "rest"])) t6 (.tup [.str "name", .str "p"])) t7 (.tup [.str "number", .int 3])) t8 (.tup [.str "named", .str "main", .str "tree"])) := Same.one h8
    have s9 : Same (upd (upd (upd (upd (upd (upd (upd (upd (H) t1 (.tup [])) t2 (.tup [.str "int"])) t3 (.tup [.str "bool"])) t4 (.tup [.str "nothing"])) t5 (.tup [.str "rest"])) t6 (.tup [.str "name", .str "p"])) t7 (.tup [.str "number", .int 3])) t8 (.tup [.str "named", .str "main", .str "tree"])) (upd (upd (upd (upd (upd (upd (upd (upd (upd (H) t1 (.tup [])) t2 (.tup [.str "int"])) t3 (.tup [.str "bool"])) t4 (.tup [.str "nothing"])) t5 (.tup [.str "rest"])) t6 (.tup [.str "name", .str "p"])) t7 (.tup [.str "number", .int 3])) t8 (.tup [.str "named", .str "main", .str "tree"])) th (.lst [.int 0, .int 1, .int 2, .int (-1), .int 10000, .str "", .str "p", .str "go", .str "lib", .ref t1, .ref t2, .ref t3, .ref t4, .ref t5, .ref t6, .ref t7, .ref t8, .non, .bl true])) := Same.one hth
    have n1 := oc0.ne h1
    have oc1 := oc0.same s1
    have n2 := oc1.ne h2
    have oc2 := oc1.same s2
    have n3 := oc2.ne h3
    have oc3 := oc2.same s3
    have n4 := oc3.ne h4
    have oc4 := oc3.same s4
    have n5 := oc4.ne h5
    have oc5 := oc4.same s5
    have n6 := oc5.ne h6
    have oc6 := oc5.same s6
    have n7 := oc6.ne h7
    have oc7 := oc6.same s7
    have n8 := oc7.ne h8
    have oc8 := oc7.same s8
    have n9 := oc8.ne hth
    have oc9 := oc8.same s9
    have e1 := (s9 _ _ (s8 _ _ (s7 _ _ (s6 _ _ (s5 _ _ (s4 _ _ (s3 _ _ (s2 t1 _ upd_same))))))))
    have e2 := (s9 _ _ (s8 _ _ (s7 _ _ (s6 _ _ (s5 _ _ (s4 _ _ (s3 t2 _ upd_same)))))))
    have e3 := (s9 _ _ (s8 _ _ (s7 _ _ (s6 _ _ (s5 _ _ (s4 t3 _ upd_same))))))
    have e4 := (s9 _ _ (s8 _ _ (s7 _ _ (s6 _ _ (s5 t4 _ upd_same)))))
    have e5 := (s9 _ _ (s8 _ _ (s7 _ _ (s6 t5 _ upd_same))))
    have e6 := (s9 _ _ (s8 _ _ (s7 t6 _ upd_same)))
    have e7 := (s9 _ _ (s8 t7 _ upd_same))
    have e8 := (s9 t8 _ upd_same)
    have sG := ((((((((s1.trans s2).trans s3).trans s4).trans s5).trans s6).trans s7).trans s8).trans s9)
    have hxs : ∀ x ∈ ([.int 0, .int 1, .int 2, .int (-1), .int 10000, .str "", .str "p", .str "go", .str "lib", .ref t1, .ref t2, .ref t3, .ref t4, .ref t5, .ref t6, .ref t7, .ref t8, .non, .bl true] : List V), Xs K S (upd (upd (upd (upd (upd (upd (upd (upd (upd (H) t1 (.tup [])) t2 (.tup [.str "int"])) t3 (.tup [.str "bool"])) t4 (.tup [.str "nothing"])) t5 (.tup [.str "rest"])) t6 (.tup [.str "name", .str "p"])) t7 (.tup [.str "number", .int 3])) t8 (.tup [.str "named", .str "main", .str "tree"])) th (.lst [.int 0, .int 1, .int 2, .int (-1), .int 10000, .str "", .str "p", .str "go", .str "lib", .ref t1, .ref t2, .ref t3, .ref t4, .ref t5, .ref t6, .ref t7, .ref t8, .non, .bl true])) x := by
      intro x hx
      simp only [List.mem_cons, List.not_mem_nil, or_false] at hx
      rcases hx with rfl | rfl | rfl | rfl | rfl | rfl | rfl | rfl | rfl | rfl | rfl | rfl | rfl | rfl | rfl | rfl | rfl | rfl | rfl
      · exact ⟨_, .int _, .int _⟩
      · exact ⟨_, .int _, .int _⟩
      · exact ⟨_, .int _, .int _⟩
      · exact ⟨_, .int _, .int _⟩
      · exact ⟨_, .int _, .int _⟩
      · exact xs_str (by decide +kernel) (by decide +kernel)
      · exact xs_str (by decide +kernel) (by decide +kernel)
      · exact xs_str (by decide +kernel) (by decide +kernel)
      · exact xs_str (by decide +kernel) (by decide +kernel)
      · exact ⟨.tuple [], .tup (sqt_new (by rw [hidS_at n1]; exact e1)) .nil, .tup (by simp) (by simp)⟩
      · exact xs_strs ["int"] e2 n2 (by decide +kernel) (by simp)
      · exact xs_strs ["bool"] e3 n3 (by decide +kernel) (by simp)
      · exact xs_strs ["nothing"] e4 n4 (by decide +kernel) (by simp)
      · exact xs_strs ["rest"] e5 n5 (by decide +kernel) (by simp)
      · exact xs_strs ["name", "p"] e6 n6 (by decide +kernel) (by simp)
      · exact ⟨.tuple [.str "number", .int 3], .tup (sqt_new (by rw [hidS_at n7]; exact e7)) (.cons (.str _) (.cons (.int _) .nil)), .tup (by simp) fun d hd => by
          simp at hd
          rcases hd with rfl | rfl
          · exact .str (by decide +kernel) (by decide +kernel)
          · exact .int 3⟩
      · exact xs_strs ["named", "main", "tree"] e8 n8 (by decide +kernel) (by simp)
      · exact ⟨_, .non, .non⟩
      · exact ⟨_, .bl _, .bl _⟩
    have eth : (upd (upd (upd (upd (upd (upd (upd (upd (upd (H) t1 (.tup [])) t2 (.tup [.str "int"])) t3 (.tup [.str "bool"])) t4 (.tup [.str "nothing"])) t5 (.tup [.str "rest"])) t6 (.tup [.str "name", .str "p"])) t7 (.tup [.str "number", .int 3])) t8 (.tup [.str "named", .str "main", .str "tree"])) th (.lst [.int 0, .int 1, .int 2, .int (-1), .int 10000, .str "", .str "p", .str "go", .str "lib", .ref t1, .ref t2, .ref t3, .ref t4, .ref t5, .ref t6, .ref t7, .ref t8, .non, .bl true])) th = some (.lst [.int 0, .int 1, .int 2, .int (-1), .int 10000, .str "", .str "p", .str "go", .str "lib", .ref t1, .ref t2, .ref t3, .ref t4, .ref t5, .ref t6, .ref t7, .ref t8, .non, .bl true]) := upd_same
    have hxl : ([.int 0, .int 1, .int 2, .int (-1), .int 10000, .str "", .str "p", .str "go", .str "lib", .ref t1, .ref t2, .ref t3, .ref t4, .ref t5, .ref t6, .ref t7, .ref t8, .non, .bl true] : List V).length = 19 := rfl
    have pG := hp.same sG
    clear s1 s2 s3 s4 s5 s6 s7 s8 s9 e1 e2 e3 e4 e5 e6 e7 e8
    revert sG hxs eth pG oc9 n9 hxl
    generalize upd (upd (upd (upd (upd (upd (upd (upd (upd (H) t1 (.tup [])) t2 (.tup [.str "int"])) t3 (.tup [.str "bool"])) t4 (.tup [.str "nothing"])) t5 (.tup [.str "rest"])) t6 (.tup [.str "name", .str "p"])) t7 (.tup [.str "number", .int 3])) t8 (.tup [.str "named", .str "main", .str "tree"])) th (.lst [.int 0, .int 1, .int 2, .int (-1), .int 10000, .str "", .str "p", .str "go", .str "lib", .ref t1, .ref t2, .ref t3, .ref t4, .ref t5, .ref t6, .ref t7, .ref t8, .non, .bl true]) = G0
    generalize ([.int 0, .int 1, .int 2, .int (-1), .int 10000, .str "", .str "p", .str "go", .str "lib", .ref t1, .ref t2, .ref t3, .ref t4, .ref t5, .ref t6, .ref t7, .ref t8, .non, .bl true] : List V) = xs0
    intro n9 oc9 sG hxs eth hxl pG
    have dpA : ∀ {H' : Hp}, But pl H H' → Dp K (hidS S H') (.ref a) (.tuple ds) := fun bb => hd.same (hidS_but hpl bb)
    have haA : ∀ {H' : Hp}, But pl H H' → SqT K H' a ys := fun bb => (hidS_le S _).sqt (L2.Same.sqt (hidS_but hpl bb) ha)
    have cutSml : ∀ lo hi, ∀ x ∈ cutD ds lo hi, Sml x := fun lo hi x hx => hsm.tupIn x (cutD_mem hx)
    have cutL : ∀ lo hi, (cutD ds lo hi).length ≤ 10 := fun lo hi => Nat.le_trans (cutD_len ds lo hi) hl
    have b0 : But pl H G0 := sG.but pl
    refine ⟨_, rfl, a, ys, rfl, .inr (haA b0), fun l1 hl1 => ?_⟩
    have q1 : Same G0 (upd G0 l1 (.lst ys)) := Same.one hl1
    have b1 := b0.trans (q1.but pl)
    have oc1 := oc9.same q1
    have x1 : Xs K S (upd G0 l1 (.lst ys)) (.ref l1) := ⟨.list ds, .lst (sql_new (by rw [hidS_at (oc9.ne hl1)]; exact upd_same)) (hys.same (hidS_but hpl b1)), .lst (by omega) hsm.tupIn⟩
    refine ⟨_, rfl, 1, rfl, ds, dpA b1, oc1, fun p2 G2 q2 d2 => ?_⟩
    have b2 := b1.trans (q2.but pl)
    have oc2 := oc1.same q2
    have x2 : Xs K S G2 (.ref p2) := ⟨_, d2, .tup (by have := cutL (some 1) none; omega) (cutSml _ _)⟩
    refine ⟨_, rfl, _, rfl, -1, rfl, ds, dpA b2, oc2, fun p3 G3 q3 d3 => ?_⟩
    have b3 := b2.trans (q3.but pl)
    have oc3 := oc2.same q3
    have x3 : Xs K S G3 (.ref p3) := ⟨_, d3, .tup (by have := cutL none (some (-1)); omega) (cutSml _ _)⟩
    refine ⟨_, rfl, _, rfl, _, rfl, -1, rfl, ds, dpA b3, oc3, fun p4 G4 q4 d4 => ?_⟩
    have b4 := b3.trans (q4.but pl)
    have oc4 := oc3.same q4
    refine ⟨ds, _, dpA b4, d4, oc4, by have := cutL (some (-1)) none; rw [sizeLine_eq]; omega, fun p5 G5 q5 d5 => ?_⟩
    have b5 := b4.trans (q5.but pl)
    have oc5 := oc4.same q5
    have x5 : Xs K S G5 (.ref p5) := ⟨_, d5, sml2 hl (cutL _ _) hsm.tupIn (cutSml _ _)⟩
    refine ⟨_, rfl, (by show 1 ≤ sizeLine; decide), fun t6 ht6 => ?_⟩
    have q6 : Same G5 (upd G5 t6 (.tup [.ref a])) := Same.one ht6
    have b6 := b5.trans (q6.but pl)
    have oc6 := oc5.same q6
    have x6 : Xs K S (upd G5 t6 (.tup [.ref a])) (.ref t6) := ⟨.tuple [.tuple ds], .tup (sqt_new (by rw [hidS_at (oc5.ne ht6)]; exact upd_same)) (.cons (dpA b6) .nil), .tup (by simp) fun x hx => by simp at hx; subst hx; exact hsm⟩
    refine ⟨_, rfl, S, .ref a, _, 10, 1, rfl, by omega, dpA b6, tv, oc6, fun G7 v7 q7 x7 => ?_⟩
    have b7 := b6.trans (q7.but pl)
    have oc7 := oc6.same q7
    refine ⟨_, rfl, S, .ref a, _, 10, 2, rfl, by omega, dpA b7, tv, oc7, fun G8 v8 q8 x8 => ?_⟩
    have b8 := b7.trans (q8.but pl)
    have oc8 := oc7.same q8
    refine ⟨_, rfl, S, .ref a, _, 10, rfl, by omega, dpA b8, tv, oc8, fun G9 v9 q9 x9 => ?_⟩
    have b9 := b8.trans (q9.but pl)
    have oc9' := oc8.same q9
    refine ⟨Nat.zero_le _, fun t10 ht10 => ⟨(by show 9 ≤ sizeLine; decide), fun lf hlf => ?_⟩⟩
    have q10 : Same G9 (upd G9 t10 (.tup [])) := Same.one ht10
    have oc10 := oc9'.same q10
    have x10 : Xs K S (upd G9 t10 (.tup [])) (.ref t10) := ⟨.tuple [], .tup (sqt_new (by rw [hidS_at (oc9'.ne ht10)]; exact upd_same)) .nil, .tup (by simp) (by simp)⟩
    have q11 : Same (upd G9 t10 (.tup [])) (upd (upd G9 t10 (.tup [])) lf (.lst [.ref l1, .ref p2, .ref p3, .ref p5, .ref t6, v7, v8, v9, .ref t10])) := Same.one hlf
    have nlf := oc10.ne hlf
    have elf : (upd (upd G9 t10 (.tup [])) lf (.lst [.ref l1, .ref p2, .ref p3, .ref p5, .ref t6, v7, v8, v9, .ref t10])) lf = some (.lst [.ref l1, .ref p2, .ref p3, .ref p5, .ref t6, v7, v8, v9, .ref t10]) := upd_same
    have hF : ∀ x ∈ ([.ref l1, .ref p2, .ref p3, .ref p5, .ref t6, v7, v8, v9, .ref t10] : List V), Xs K S (upd (upd G9 t10 (.tup [])) lf (.lst [.ref l1, .ref p2, .ref p3, .ref p5, .ref t6, v7, v8, v9, .ref t10])) x := by
      have r9 := (q10.trans q11)
      have r8 := q9.trans r9
      have r7 := q8.trans r8
      have r6 := q7.trans r7
      have r5 := q6.trans r6
      have r4 := (q4.trans q5).trans r5
      have r2 := q3.trans r4
      have r1 := q2.trans r2
      intro x hx
      simp only [List.mem_cons, List.not_mem_nil, or_false] at hx
      rcases hx with rfl | rfl | rfl | rfl | rfl | rfl | rfl | rfl | rfl
      · exact x1.same r1
      · exact x2.same r2
      · exact x3.same r4
      · exact x5.same r5
      · exact x6.same r6
      · exact x7.same r7
      · exact x8.same r8
      · exact x9.same r9
      · exact x10.same q11
    have bF := b9.trans ((q10.trans q11).but pl)
    have sF := ((((((((((q1.trans q2).trans q3).trans q4).trans q5).trans q6).trans q7).trans q8).trans q9).trans q10).trans q11)
    have pF := pG.same sF
    have ocF := oc10.same q11
    have ethF := sF _ _ eth
    have hxF : ∀ x ∈ xs0, Xs K S _ x := fun x hx => (hxs x hx).same sF
    have hFl : ([.ref l1, .ref p2, .ref p3, .ref p5, .ref t6, v7, v8, v9, .ref t10] : List V).length = 9 := rfl
    clear q1 q2 q3 q4 q5 q6 q7 q8 q9 q10 q11 x1 x2 x3 x5 x6 x7 x8 x9 x10 sF b1 b2 b3 b4 b5 b6 b7 b8 b9
    revert nlf elf hF bF pF ocF ethF hxF hFl
    generalize upd (upd G9 t10 (.tup [])) lf (.lst [.ref l1, .ref p2, .ref p3, .ref p5, .ref t6, v7, v8, v9, .ref t10]) = F0
    generalize ([.ref l1, .ref p2, .ref p3, .ref p5, .ref t6, v7, v8, v9, .ref t10] : List V) = fs
    intro nlf elf hF bF pF ocF ethF hxF hFl
    refine ⟨_, rfl, 14, rfl, by decide, by decide, fun D hD => ?_⟩
    refine lc_range (lo := 0) (n := 14) (XbC K S pl sc F0 D) (XbC.zero pF hD) (fun i H3 hi hP => ?_) (fun H3 hP => ?_)
    · obtain ⟨b3, p3, vs, hv, hvl, _⟩ := id hP
      have ff := hidS_fresh (S := S) hD
      have bS := ff.trans (hidS_but (List.mem_cons_of_mem _ hpl) b3)
      refine ⟨rfl, _, rfl, _, rfl, _, rfl, D :: S, pl, sc, th, .ref a, _, 10, xs0, rfl, by omega, List.mem_cons_of_mem _ hpl, p3, (dpA bF).same bS, tv, (ocF.but b3 p3).cons hv, L2.Same.seq bS (sql_new (by rw [hidS_at n9]; exact ethF)), by omega, by omega, fun x hx => ((hxF x hx).fresh hD).but (List.mem_cons_of_mem _ hpl) b3, fun H4 v4 b4 p4 x4 => ?_⟩
      exact hP.yes hpl pF hD b4 p4 x4 (by omega)
    obtain ⟨b3, p3, vs1, hv1, hvl1, hx1⟩ := hP
    have nD := pF.ne hD
    have elf3 := b3.at elf (fun e => by rw [e] at elf; obtain ⟨_, _, _, _, _, h1, _⟩ := pF; rw [h1] at elf; cases elf; simp at hFl)
    refine ⟨lf, D, fs, vs1, rfl, rfl, elf3, hv1, by rw [hFl, hvl1, sizeLine_eq]; omega, fun l2 hl2 => ?_⟩
    have q2 : Same H3 (upd H3 l2 (.lst (fs ++ vs1))) := Same.one hl2
    have bB := (bF.trans b3).trans (q2.but pl)
    have pB := p3.same q2
    have ocB := (ocF.but b3 p3).same q2
    have eB : (upd H3 l2 (.lst (fs ++ vs1))) l2 = some (.lst (fs ++ vs1)) := upd_same
    have hB : ∀ x ∈ fs ++ vs1, Xs K S (upd H3 l2 (.lst (fs ++ vs1))) x := fun x hx => by
      rcases List.mem_append.mp hx with h | h
      · exact ((hF x h).but hpl b3).same q2
      · exact ((hx1 x h).sub fun a h => List.mem_cons_of_mem _ h).same q2
    have lB : (fs ++ vs1).length = 23 := by rw [List.length_append, hFl, hvl1]
    clear hF hx1 hxF
    revert bB pB ocB eB hB lB
    generalize upd H3 l2 (.lst (fs ++ vs1)) = B0
    generalize fs ++ vs1 = bs
    intro bB pB ocB eB hB lB
    refine ⟨9, rfl, by decide, by decide, fun D2 hD2 => ?_⟩
    refine lc_range (lo := 0) (n := 9) (XbC K S pl sc B0 D2) (XbC.zero pB hD2) (fun i H5 hi hP => ?_) (fun H5 hP => ?_)
    · obtain ⟨b5, p5, vs, hv, hvl, _⟩ := id hP
      have bS := (hidS_fresh (S := S) hD2).trans (hidS_but (List.mem_cons_of_mem _ hpl) b5)
      refine ⟨rfl, _, rfl, _, rfl, D2 :: S, pl, sc, .ref a, _, 10, rfl, by omega, List.mem_cons_of_mem _ hpl, p5, (dpA bB).same bS, tv, (ocB.but b5 p5).cons hv, fun H4 v4 b4 p4 x4 => ?_⟩
      exact hP.yes hpl pB hD2 b4 p4 x4 (by omega)
    obtain ⟨b5, p5, vs2, hv2, hvl2, hx2⟩ := hP
    have nl2 : l2 ≠ pl := fun e => by rw [e] at eB; obtain ⟨_, _, _, _, _, h1, _⟩ := pB; rw [h1] at eB; cases eB; simp at lB
    refine ⟨l2, D2, bs, vs2, rfl, rfl, b5.at eB nl2, hv2, by rw [lB, hvl2, sizeLine_eq]; omega, fun l3 hl3 => ?_⟩
    have q3 : Same H5 (upd H5 l3 (.lst (bs ++ vs2))) := Same.one hl3
    have bC := (bB.trans b5).trans (q3.but pl)
    have pC := p5.same q3
    have ocC := (ocB.but b5 p5).same q3
    have eC : (upd H5 l3 (.lst (bs ++ vs2))) l3 = some (.lst (bs ++ vs2)) := upd_same
    have hC : ∀ x ∈ bs ++ vs2, Xs K S (upd H5 l3 (.lst (bs ++ vs2))) x := fun x hx => by
      rcases List.mem_append.mp hx with h | h
      · exact ((hB x h).but hpl b5).same q3
      · exact ((hx2 x h).sub fun a h => List.mem_cons_of_mem _ h).same q3
    have lC : (bs ++ vs2).length = 32 := by rw [List.length_append, lB, hvl2]
    clear hB hx2
    revert bC pC ocC eC hC lC
    generalize upd H5 l3 (.lst (bs ++ vs2)) = C0
    generalize bs ++ vs2 = cs
    intro bC pC ocC eC hC lC
    refine ⟨_, rfl, 7, rfl, by decide, by decide, fun D3 hD3 => ?_⟩
    refine lc_range (lo := 0) (n := 7) (XbC K S pl sc C0 D3) (XbC.zero pC hD3) (fun i H7 hi hP => ?_) (fun H7 hP => ?_)
    · obtain ⟨b7, p7, vs, hv, hvl, _⟩ := id hP
      have bS := (hidS_fresh (S := S) hD3).trans (hidS_but (List.mem_cons_of_mem _ hpl) b7)
      refine ⟨rfl, _, rfl, _, rfl, D3 :: S, pl, sc, .ref a, _, 10, rfl, by omega, List.mem_cons_of_mem _ hpl, p7, (dpA bC).same bS, tv, (ocC.but b7 p7).cons hv, fun H4 v4 b4 p4 x4 => ?_⟩
      exact hP.yes hpl pC hD3 b4 p4 x4 (by omega)
    obtain ⟨b7, p7, vs3, hv3, hvl3, hx3⟩ := hP
    have nl3 : l3 ≠ pl := fun e => by rw [e] at eC; obtain ⟨_, _, _, _, _, h1, _⟩ := pC; rw [h1] at eC; cases eC; simp at lC
    refine ⟨l3, D3, cs, vs3, rfl, rfl, b7.at eC nl3, hv3, by rw [lC, hvl3, sizeLine_eq]; omega, fun l4 hl4 => ?_⟩
    have q4 : Same H7 (upd H7 l4 (.lst (cs ++ vs3))) := Same.one hl4
    refine q _ l4 (cs ++ vs3) ((bC.trans b7).trans (q4.but pl)) (p7.same q4) upd_same (by rw [List.length_append, lC, hvl3]; omega) fun x hx => ?_
    rw [← hS]
    rcases List.mem_append.mp hx with h | h
    · exact ((hC x h).but hpl b7).same q4
    · exact ((hx3 x h).sub fun a h => List.mem_cons_of_mem _ h).same q4
end
end K01

set_option Elab.async false
set_option linter.all false
set_option maxRecDepth 100000
set_option maxHeartbeats 4000000
namespace K01
open PySem PySem.Spec PyProof.Rows L2
/-- data or a dict, small -/
def Ok1 (K : PySem.W.Frag) (H : Hp) (v : V) : Prop := ∃ d, Vx K H v d ∧ Sml d
theorem Ok1.same {K : PySem.W.Frag} {H H' : Hp} {v : V} (h : Ok1 K H v) (s : Same H H') : Ok1 K H' v := let ⟨d, a, b⟩ := h; ⟨d, a.same s, b⟩
/-- data, small -/
def Od (K : PySem.W.Frag) (H : Hp) (v : V) : Prop := ∃ d, Dp K H v d ∧ Sml d
theorem Od.same {K : PySem.W.Frag} {H H' : Hp} {v : V} (h : Od K H v) (s : Same H H') : Od K H' v := let ⟨d, a, b⟩ := h; ⟨d, a.same s, b⟩
theorem Od.ok {K : PySem.W.Frag} {H : Hp} {v : V} (h : Od K H v) : Ok1 K H v := let ⟨d, a, b⟩ := h; ⟨d, .inl a, b⟩
theorem Xs.od {K : PySem.W.Frag} {S : List Addr} {H : Hp} {v : V} (h : Xs K S H v) : Od K H v := let ⟨d, a, b⟩ := h; ⟨d, a.same (hidS_le S H), b⟩
theorem od_all {K : PySem.W.Frag} {H : Hp} : ∀ {vs : List V}, (∀ v ∈ vs, Od K H v) → ∃ ds, DpAll K H vs ds ∧ ∀ d ∈ ds, Sml d
  | [], _ => ⟨[], .nil, by simp⟩
  | v :: vs, h => by
    obtain ⟨d, a, b⟩ := h v List.mem_cons_self
    obtain ⟨ds, e, f⟩ := od_all fun w hw => h w (List.mem_cons_of_mem _ hw)
    exact ⟨d :: ds, .cons a e, fun x hx => by
      rcases List.mem_cons.mp hx with z | z
      · subst z; exact b
      · exact f x z⟩
theorem od_tup {K : PySem.W.Frag} {H : Hp} {t : Addr} {vs : List V} (h : H t = some (.tup vs)) (hl : vs.length ≤ 1000) (g : ∀ v ∈ vs, Od K H v) : Od K H (.ref t) := by
  obtain ⟨ds, e, f⟩ := od_all g
  exact ⟨.tuple ds, .tup (sqt_new h) e, .tup (by rw [← e.len]; exact hl) f⟩
theorem od_lst {K : PySem.W.Frag} {H : Hp} {t : Addr} {vs : List V} (h : H t = some (.lst vs)) (hl : vs.length ≤ 1000) (g : ∀ v ∈ vs, Od K H v) : Od K H (.ref t) := by
  obtain ⟨ds, e, f⟩ := od_all g
  exact ⟨.list ds, .lst (sql_new h) e, .lst (by rw [← e.len]; exact hl) f⟩
theorem od_int {K : PySem.W.Frag} {H : Hp} (i : Int) : Od K H (.int i) := ⟨_, .int i, .int i⟩
theorem od_bl {K : PySem.W.Frag} {H : Hp} (i : Bool) : Od K H (.bl i) := ⟨_, .bl i, .bl i⟩
theorem od_non {K : PySem.W.Frag} {H : Hp} : Od K H .non := ⟨_, .non, .non⟩
theorem od_str {K : PySem.W.Frag} {H : Hp} {x : Str} (h : x.length ≤ 1000) (o : PyData.strOk x = true) : Od K H (.str x) := ⟨_, .str x, .str h o⟩
theorem ok_dict {K : PySem.W.Frag} {H : Hp} {a : Addr} {ks : List (Key × V)} (h : H a = some (.dK ks)) : Ok1 K H (.ref a) := ⟨.dict [], .inr ⟨[], a, rfl, rfl, ks, h⟩, .dict []⟩
def spOdd (K : PySem.W.Frag) : Sp := fun vs H Q _ => vs = [] ∧ ∀ H' l xs, Same H H' → H' l = some (.lst xs) → xs.length = 22 → (∀ x ∈ xs, Ok1 K H' x) → Q (.ref l) H'
section
variable {P : Program} {w : World} {K : PySem.W.Frag} {mg : Str → Option Value} {base : Heap} (T : Txt K mg)
include T
theorem ok_odd : FnOk P w K mg base CX0 1 (He.ga K "_law_odd_values") T.d__law_odd_values [] (spOdd K) := by
  refine T.F__law_odd_values.ok sc_law_odd_values (fun vs H Q E h => ?_) (fun cdv A outer s H vs Q E hr h => ?_)
  · obtain ⟨rfl, _⟩ := h; rfl
  · obtain ⟨rfl, q⟩ := h
    refine ⟨_, PSs.nox (pss_cons (ps_set (i := 0) sc_law_odd_values.nd rfl (.inl rfl) (pe_tup pa_nil))
    (pss_cons (ps_for PassesOwn.never rfl (pi_range1 (by rfl) T.range (pa_cons pe_int pa_nil)) (pg_name (i := 1) sc_law_odd_values.nd rfl (.inl rfl))
    (pss_one (ps_set (i := 0) sc_law_odd_values.nd rfl (.inl rfl) (pe_tup (pa_cons (pv 0) pa_nil)))))
    (pss_one (ps_ret (pe_lst (pa_cons (pv 0) (pa_cons (pe_tup (pa_cons pe_str (pa_cons (pv 0) (pa_cons (pv 0) pa_nil)))) (pa_cons pe_non (pa_cons pe_int (pa_cons pe_int (pa_cons pe_bl (pa_cons pe_bl (pa_cons pe_str (pa_cons pe_str (pa_cons (pe_tup pa_nil) (pa_cons (pe_lst pa_nil) (pa_cons pe_dnewK (pa_cons (pe_tup (pa_cons (pe_tup pa_nil) pa_nil)) (pa_cons (pe_tup (pa_cons (pe_tup pa_nil) (pa_cons (pe_tup pa_nil) pa_nil))) (pa_cons (pe_tup (pa_cons pe_int pa_nil)) (pa_cons (pe_tup (pa_cons pe_int (pa_cons pe_int pa_nil))) (pa_cons (pe_tup (pa_cons pe_str pa_nil)) (pa_cons (pe_tup (pa_cons (pe_lst pa_nil) pa_nil)) (pa_cons (pe_disp (pps_cons pe_str pe_int pps_nil) (by rfl) (by rfl) (fun z => by cases z) (by decide)) (pa_cons (pe_tup (pa_cons pe_non pa_nil)) (pa_cons (pe_tup (pa_cons (pe_tup (pa_cons (pe_tup pa_nil) pa_nil)) pa_nil)) (pa_cons (pe_un un_neg pe_int) pa_nil))))))))))))))))))))))))))), ?_⟩
    refine ⟨Nat.zero_le _, fun t0 ht0 => ?_⟩
    refine ⟨90, rfl, by decide, by decide, ?_⟩
    have s0 : Same H (upd H t0 (.tup [])) := Same.one ht0
    have f0 : Od K (upd H t0 (.tup [])) (.ref t0) := od_tup upd_same (by simp) (by simp)
    refine for_range (lo := 0) (n := 90) (fun _ σ H' => Same H H' ∧ ∃ (v : V) (c : Option V), σ = [some v, c] ∧ Od K H' v) ⟨s0, _, none, rfl, f0⟩ (fun j σ H' hj h => ?_) (fun σ H' h => ?_)
    · obtain ⟨s1, v, c, rfl, f⟩ := h
      refine ⟨_, rfl, (by show 1 ≤ sizeLine; decide), fun t ht => ?_⟩
      have s2 : Same H' (upd H' t (.tup [v])) := Same.one ht
      exact ⟨s1.trans s2, _, _, rfl, od_tup upd_same (by simp) fun x hx => by simp at hx; subst hx; exact f.same s2⟩
    obtain ⟨sG, v0, c, rfl, f0⟩ := h
    clear s0
    revert sG f0
    generalize H' = G
    intro sG f0
    refine ⟨_, rfl, _, rfl, _, rfl, (by show 3 ≤ sizeLine; decide), fun t1 ht1 => ?_⟩
    have sN : Same G (upd G t1 (.tup [.str "plan", v0, v0])) := Same.one ht1
    have eN : (upd G t1 (.tup [.str "plan", v0, v0])) t1 = some (.tup [.str "plan", v0, v0]) := upd_same
    replace f0 := f0.same sN
    have ft1 : Od K (upd G t1 (.tup [.str "plan", v0, v0])) (.ref t1) := od_tup eN (by simp) (fun x hx => by simp only [List.mem_cons, List.not_mem_nil, or_false] at hx; rcases hx with rfl | rfl | rfl; exact od_str (by decide +kernel) (by decide +kernel); exact f0; exact f0)
    replace sG := sG.trans sN
    clear sN eN
    revert sG f0 ft1
    generalize upd G t1 (.tup [.str "plan", v0, v0]) = G
    clear ht1
    intro f0 ft1 sG
    refine ⟨Nat.zero_le _, fun t2 ht2 => ?_⟩
    have sN : Same G (upd G t2 (.tup [])) := Same.one ht2
    have eN : (upd G t2 (.tup [])) t2 = some (.tup []) := upd_same
    replace f0 := f0.same sN
    replace ft1 := ft1.same sN
    have ft2 : Od K (upd G t2 (.tup [])) (.ref t2) := od_tup eN (by simp) (by simp)
    replace sG := sG.trans sN
    clear sN eN
    revert sG f0 ft1 ft2
    generalize upd G t2 (.tup []) = G
    clear ht2
    intro f0 ft1 ft2 sG
    refine ⟨Nat.zero_le _, fun l3 hl3 => ?_⟩
    have sN : Same G (upd G l3 (.lst [])) := Same.one hl3
    have eN : (upd G l3 (.lst [])) l3 = some (.lst []) := upd_same
    replace f0 := f0.same sN
    replace ft1 := ft1.same sN
    replace ft2 := ft2.same sN
    have fl3 : Od K (upd G l3 (.lst [])) (.ref l3) := od_lst eN (by simp) (by simp)
    replace sG := sG.trans sN
    clear sN eN
    revert sG f0 ft1 ft2 fl3
    generalize upd G l3 (.lst []) = G
    clear hl3
    intro f0 ft1 ft2 fl3 sG
    refine fun d4 hd4 => ?_
    have sN : Same G (upd G d4 (.dK [])) := Same.one hd4
    have eN : (upd G d4 (.dK [])) d4 = some (.dK []) := upd_same
    replace f0 := f0.same sN
    replace ft1 := ft1.same sN
    replace ft2 := ft2.same sN
    replace fl3 := fl3.same sN
    have fd4 : Ok1 K (upd G d4 (.dK [])) (.ref d4) := ok_dict eN
    replace sG := sG.trans sN
    clear sN eN
    revert sG f0 ft1 ft2 fl3 fd4
    generalize upd G d4 (.dK []) = G
    clear hd4
    intro f0 ft1 ft2 fl3 fd4 sG
    refine ⟨Nat.zero_le _, fun t5 ht5 => ?_⟩
    have sN : Same G (upd G t5 (.tup [])) := Same.one ht5
    have eN : (upd G t5 (.tup [])) t5 = some (.tup []) := upd_same
    replace f0 := f0.same sN
    replace ft1 := ft1.same sN
    replace ft2 := ft2.same sN
    replace fl3 := fl3.same sN
    replace fd4 := fd4.same sN
    have ft5 : Od K (upd G t5 (.tup [])) (.ref t5) := od_tup eN (by simp) (by simp)
    replace sG := sG.trans sN
    clear sN eN
    revert sG f0 ft1 ft2 fl3 fd4 ft5
    generalize upd G t5 (.tup []) = G
    clear ht5
    intro f0 ft1 ft2 fl3 fd4 ft5 sG
    refine ⟨(by show 1 ≤ sizeLine; decide), fun t6 ht6 => ?_⟩
    have sN : Same G (upd G t6 (.tup [.ref t5])) := Same.one ht6
    have eN : (upd G t6 (.tup [.ref t5])) t6 = some (.tup [.ref t5]) := upd_same
    replace f0 := f0.same sN
    replace ft1 := ft1.same sN
    replace ft2 := ft2.same sN
    replace fl3 := fl3.same sN
    replace fd4 := fd4.same sN
    replace ft5 := ft5.same sN
    have ft6 : Od K (upd G t6 (.tup [.ref t5])) (.ref t6) := od_tup eN (by simp) (fun x hx => by simp only [List.mem_cons, List.not_mem_nil, or_false] at hx; rcases hx with rfl; exact ft5)
    replace sG := sG.trans sN
    clear sN eN
    clear ft5
    revert sG f0 ft1 ft2 fl3 fd4 ft6
    generalize upd G t6 (.tup [.ref t5]) = G
    clear ht6
    intro f0 ft1 ft2 fl3 fd4 ft6 sG
    refine ⟨Nat.zero_le _, fun t7 ht7 => ?_⟩
    have sN : Same G (upd G t7 (.tup [])) := Same.one ht7
    have eN : (upd G t7 (.tup [])) t7 = some (.tup []) := upd_same
    replace f0 := f0.same sN
    replace ft1 := ft1.same sN
    replace ft2 := ft2.same sN
    replace fl3 := fl3.same sN
    replace fd4 := fd4.same sN
    replace ft6 := ft6.same sN
    have ft7 : Od K (upd G t7 (.tup [])) (.ref t7) := od_tup eN (by simp) (by simp)
    replace sG := sG.trans sN
    clear sN eN
    revert sG f0 ft1 ft2 fl3 fd4 ft6 ft7
    generalize upd G t7 (.tup []) = G
    clear ht7
    intro f0 ft1 ft2 fl3 fd4 ft6 ft7 sG
    refine ⟨Nat.zero_le _, fun t8 ht8 => ?_⟩
    have sN : Same G (upd G t8 (.tup [])) := Same.one ht8
    have eN : (upd G t8 (.tup [])) t8 = some (.tup []) := upd_same
    replace f0 := f0.same sN
    replace ft1 := ft1.same sN
    replace ft2 := ft2.same sN
    replace fl3 := fl3.same sN
    replace fd4 := fd4.same sN
    replace ft6 := ft6.same sN
    replace ft7 := ft7.same sN
    have ft8 : Od K (upd G t8 (.tup [])) (.ref t8) := od_tup eN (by simp) (by simp)
    replace sG := sG.trans sN
    clear sN eN
    revert sG f0 ft1 ft2 fl3 fd4 ft6 ft7 ft8
    generalize upd G t8 (.tup []) = G
    clear ht8
    intro f0 ft1 ft2 fl3 fd4 ft6 ft7 ft8 sG
    refine ⟨(by show 2 ≤ sizeLine; decide), fun t9 ht9 => ?_⟩
    have sN : Same G (upd G t9 (.tup [.ref t7, .ref t8])) := Same.one ht9
    have eN : (upd G t9 (.tup [.ref t7, .ref t8])) t9 = some (.tup [.ref t7, .ref t8]) := upd_same
    replace f0 := f0.same sN
    replace ft1 := ft1.same sN
    replace ft2 := ft2.same sN
    replace fl3 := fl3.same sN
    replace fd4 := fd4.same sN
    replace ft6 := ft6.same sN
    replace ft7 := ft7.same sN
    replace ft8 := ft8.same sN
    have ft9 : Od K (upd G t9 (.tup [.ref t7, .ref t8])) (.ref t9) := od_tup eN (by simp) (fun x hx => by simp only [List.mem_cons, List.not_mem_nil, or_false] at hx; rcases hx with rfl | rfl; exact ft7; exact ft8)
    replace sG := sG.trans sN
    clear sN eN
    clear ft7
    clear ft8
    revert sG f0 ft1 ft2 fl3 fd4 ft6 ft9
    generalize upd G t9 (.tup [.ref t7, .ref t8]) = G
    clear ht9
    intro f0 ft1 ft2 fl3 fd4 ft6 ft9 sG
    refine ⟨(by show 1 ≤ sizeLine; decide), fun t10 ht10 => ?_⟩
    have sN : Same G (upd G t10 (.tup [.int 0])) := Same.one ht10
    have eN : (upd G t10 (.tup [.int 0])) t10 = some (.tup [.int 0]) := upd_same
    replace f0 := f0.same sN
    replace ft1 := ft1.same sN
    replace ft2 := ft2.same sN
    replace fl3 := fl3.same sN
    replace fd4 := fd4.same sN
    replace ft6 := ft6.same sN
    replace ft9 := ft9.same sN
    have ft10 : Od K (upd G t10 (.tup [.int 0])) (.ref t10) := od_tup eN (by simp) (fun x hx => by simp only [List.mem_cons, List.not_mem_nil, or_false] at hx; rcases hx with rfl; exact od_int 0)
    replace sG := sG.trans sN
    clear sN eN
    revert sG f0 ft1 ft2 fl3 fd4 ft6 ft9 ft10
    generalize upd G t10 (.tup [.int 0]) = G
    clear ht10
    intro f0 ft1 ft2 fl3 fd4 ft6 ft9 ft10 sG
    refine ⟨(by show 2 ≤ sizeLine; decide), fun t11 ht11 => ?_⟩
    have sN : Same G (upd G t11 (.tup [.int 1, .int 2])) := Same.one ht11
    have eN : (upd G t11 (.tup [.int 1, .int 2])) t11 = some (.tup [.int 1, .int 2]) := upd_same
    replace f0 := f0.same sN
    replace ft1 := ft1.same sN
    replace ft2 := ft2.same sN
    replace fl3 := fl3.same sN
    replace fd4 := fd4.same sN
    replace ft6 := ft6.same sN
    replace ft9 := ft9.same sN
    replace ft10 := ft10.same sN
    have ft11 : Od K (upd G t11 (.tup [.int 1, .int 2])) (.ref t11) := od_tup eN (by simp) (fun x hx => by simp only [List.mem_cons, List.not_mem_nil, or_false] at hx; rcases hx with rfl | rfl; exact od_int 1; exact od_int 2)
    replace sG := sG.trans sN
    clear sN eN
    revert sG f0 ft1 ft2 fl3 fd4 ft6 ft9 ft10 ft11
    generalize upd G t11 (.tup [.int 1, .int 2]) = G
    clear ht11
    intro f0 ft1 ft2 fl3 fd4 ft6 ft9 ft10 ft11 sG
    refine ⟨(by show 1 ≤ sizeLine; decide), fun t12 ht12 => ?_⟩
    have sN : Same G (upd G t12 (.tup [.str "x"])) := Same.one ht12
    have eN : (upd G t12 (.tup [.str "x"])) t12 = some (.tup [.str "x"]) := upd_same
    replace f0 := f0.same sN
    replace ft1 := ft1.same sN
    replace ft2 := ft2.same sN
    replace fl3 := fl3.same sN
    replace fd4 := fd4.same sN
    replace ft6 := ft6.same sN
    replace ft9 := ft9.same sN
    replace ft10 := ft10.same sN
    replace ft11 := ft11.same sN
    have ft12 : Od K (upd G t12 (.tup [.str "x"])) (.ref t12) := od_tup eN (by simp) (fun x hx => by simp only [List.mem_cons, List.not_mem_nil, or_false] at hx; rcases hx with rfl; exact od_str (by decide +kernel) (by decide +kernel))
    replace sG := sG.trans sN
    clear sN eN
    revert sG f0 ft1 ft2 fl3 fd4 ft6 ft9 ft10 ft11 ft12
    generalize upd G t12 (.tup [.str "x"]) = G
    clear ht12
    intro f0 ft1 ft2 fl3 fd4 ft6 ft9 ft10 ft11 ft12 sG
    refine ⟨Nat.zero_le _, fun l13 hl13 => ?_⟩
    have sN : Same G (upd G l13 (.lst [])) := Same.one hl13
    have eN : (upd G l13 (.lst [])) l13 = some (.lst []) := upd_same
    replace f0 := f0.same sN
    replace ft1 := ft1.same sN
    replace ft2 := ft2.same sN
    replace fl3 := fl3.same sN
    replace fd4 := fd4.same sN
    replace ft6 := ft6.same sN
    replace ft9 := ft9.same sN
    replace ft10 := ft10.same sN
    replace ft11 := ft11.same sN
    replace ft12 := ft12.same sN
    have fl13 : Od K (upd G l13 (.lst [])) (.ref l13) := od_lst eN (by simp) (by simp)
    replace sG := sG.trans sN
    clear sN eN
    revert sG f0 ft1 ft2 fl3 fd4 ft6 ft9 ft10 ft11 ft12 fl13
    generalize upd G l13 (.lst []) = G
    clear hl13
    intro f0 ft1 ft2 fl3 fd4 ft6 ft9 ft10 ft11 ft12 fl13 sG
    refine ⟨(by show 1 ≤ sizeLine; decide), fun t14 ht14 => ?_⟩
    have sN : Same G (upd G t14 (.tup [.ref l13])) := Same.one ht14
    have eN : (upd G t14 (.tup [.ref l13])) t14 = some (.tup [.ref l13]) := upd_same
    replace f0 := f0.same sN
    replace ft1 := ft1.same sN
    replace ft2 := ft2.same sN
    replace fl3 := fl3.same sN
    replace fd4 := fd4.same sN
    replace ft6 := ft6.same sN
    replace ft9 := ft9.same sN
    replace ft10 := ft10.same sN
    replace ft11 := ft11.same sN
    replace ft12 := ft12.same sN
    replace fl13 := fl13.same sN
    have ft14 : Od K (upd G t14 (.tup [.ref l13])) (.ref t14) := od_tup eN (by simp) (fun x hx => by simp only [List.mem_cons, List.not_mem_nil, or_false] at hx; rcases hx with rfl; exact fl13)
    replace sG := sG.trans sN
    clear sN eN
    clear fl13
    revert sG f0 ft1 ft2 fl3 fd4 ft6 ft9 ft10 ft11 ft12 ft14
    generalize upd G t14 (.tup [.ref l13]) = G
    clear ht14
    intro f0 ft1 ft2 fl3 fd4 ft6 ft9 ft10 ft11 ft12 ft14 sG
    refine fun d15 hd15 => ?_
    refine ⟨upd_same, [(Sum.inr "a", V.int 1)], rfl, by simp, ?_⟩
    have sN : Same G (upd (upd G d15 (.dK [])) d15 (.dK (mergeK [] [(Sum.inr "a", V.int 1)]))) := (Same.one hd15).upd_new hd15
    have eN : (upd (upd G d15 (.dK [])) d15 (.dK (mergeK [] [(Sum.inr "a", V.int 1)]))) d15 = some (.dK (mergeK [] [(Sum.inr "a", V.int 1)])) := upd_same
    replace f0 := f0.same sN
    replace ft1 := ft1.same sN
    replace ft2 := ft2.same sN
    replace fl3 := fl3.same sN
    replace fd4 := fd4.same sN
    replace ft6 := ft6.same sN
    replace ft9 := ft9.same sN
    replace ft10 := ft10.same sN
    replace ft11 := ft11.same sN
    replace ft12 := ft12.same sN
    replace ft14 := ft14.same sN
    have fd15 : Ok1 K (upd (upd G d15 (.dK [])) d15 (.dK (mergeK [] [(Sum.inr "a", V.int 1)]))) (.ref d15) := ok_dict eN
    replace sG := sG.trans sN
    clear sN eN
    revert sG f0 ft1 ft2 fl3 fd4 ft6 ft9 ft10 ft11 ft12 ft14 fd15
    generalize upd (upd G d15 (.dK [])) d15 (.dK (mergeK [] [(Sum.inr "a", V.int 1)])) = G
    clear hd15
    intro f0 ft1 ft2 fl3 fd4 ft6 ft9 ft10 ft11 ft12 ft14 fd15 sG
    refine ⟨(by show 1 ≤ sizeLine; decide), fun t16 ht16 => ?_⟩
    have sN : Same G (upd G t16 (.tup [.non])) := Same.one ht16
    have eN : (upd G t16 (.tup [.non])) t16 = some (.tup [.non]) := upd_same
    replace f0 := f0.same sN
    replace ft1 := ft1.same sN
    replace ft2 := ft2.same sN
    replace fl3 := fl3.same sN
    replace fd4 := fd4.same sN
    replace ft6 := ft6.same sN
    replace ft9 := ft9.same sN
    replace ft10 := ft10.same sN
    replace ft11 := ft11.same sN
    replace ft12 := ft12.same sN
    replace ft14 := ft14.same sN
    replace fd15 := fd15.same sN
    have ft16 : Od K (upd G t16 (.tup [.non])) (.ref t16) := od_tup eN (by simp) (fun x hx => by simp only [List.mem_cons, List.not_mem_nil, or_false] at hx; rcases hx with rfl; exact od_non)
    replace sG := sG.trans sN
    clear sN eN
    revert sG f0 ft1 ft2 fl3 fd4 ft6 ft9 ft10 ft11 ft12 ft14 fd15 ft16
    generalize upd G t16 (.tup [.non]) = G
    clear ht16
    intro f0 ft1 ft2 fl3 fd4 ft6 ft9 ft10 ft11 ft12 ft14 fd15 ft16 sG
    refine ⟨Nat.zero_le _, fun t17 ht17 => ?_⟩
    have sN : Same G (upd G t17 (.tup [])) := Same.one ht17
    have eN : (upd G t17 (.tup [])) t17 = some (.tup []) := upd_same
    replace f0 := f0.same sN
    replace ft1 := ft1.same sN
    replace ft2 := ft2.same sN
    replace fl3 := fl3.same sN
    replace fd4 := fd4.same sN
    replace ft6 := ft6.same sN
    replace ft9 := ft9.same sN
    replace ft10 := ft10.same sN
    replace ft11 := ft11.same sN
    replace ft12 := ft12.same sN
    replace ft14 := ft14.same sN
    replace fd15 := fd15.same sN
    replace ft16 := ft16.same sN
    have ft17 : Od K (upd G t17 (.tup [])) (.ref t17) := od_tup eN (by simp) (by simp)
    replace sG := sG.trans sN
    clear sN eN
    revert sG f0 ft1 ft2 fl3 fd4 ft6 ft9 ft10 ft11 ft12 ft14 fd15 ft16 ft17
    generalize upd G t17 (.tup []) = G
    clear ht17
    intro f0 ft1 ft2 fl3 fd4 ft6 ft9 ft10 ft11 ft12 ft14 fd15 ft16 ft17 sG
    refine ⟨(by show 1 ≤ sizeLine; decide), fun t18 ht18 => ?_⟩
    have sN : Same G (upd G t18 (.tup [.ref t17])) := Same.one ht18
    have eN : (upd G t18 (.tup [.ref t17])) t18 = some (.tup [.ref t17]) := upd_same
    replace f0 := f0.same sN
    replace ft1 := ft1.same sN
    replace ft2 := ft2.same sN
    replace fl3 := fl3.same sN
    replace fd4 := fd4.same sN
    replace ft6 := ft6.same sN
    replace ft9 := ft9.same sN
    replace ft10 := ft10.same sN
    replace ft11 := ft11.same sN
    replace ft12 := ft12.same sN
    replace ft14 := ft14.same sN
    replace fd15 := fd15.same sN
    replace ft16 := ft16.same sN
    replace ft17 := ft17.same sN
    have ft18 : Od K (upd G t18 (.tup [.ref t17])) (.ref t18) := od_tup eN (by simp) (fun x hx => by simp only [List.mem_cons, List.not_mem_nil, or_false] at hx; rcases hx with rfl; exact ft17)
    replace sG := sG.trans sN
    clear sN eN
    clear ft17
    revert sG f0 ft1 ft2 fl3 fd4 ft6 ft9 ft10 ft11 ft12 ft14 fd15 ft16 ft18
    generalize upd G t18 (.tup [.ref t17]) = G
    clear ht18
    intro f0 ft1 ft2 fl3 fd4 ft6 ft9 ft10 ft11 ft12 ft14 fd15 ft16 ft18 sG
    refine ⟨(by show 1 ≤ sizeLine; decide), fun t19 ht19 => ?_⟩
    have sN : Same G (upd G t19 (.tup [.ref t18])) := Same.one ht19
    have eN : (upd G t19 (.tup [.ref t18])) t19 = some (.tup [.ref t18]) := upd_same
    replace f0 := f0.same sN
    replace ft1 := ft1.same sN
    replace ft2 := ft2.same sN
    replace fl3 := fl3.same sN
    replace fd4 := fd4.same sN
    replace ft6 := ft6.same sN
    replace ft9 := ft9.same sN
    replace ft10 := ft10.same sN
    replace ft11 := ft11.same sN
    replace ft12 := ft12.same sN
    replace ft14 := ft14.same sN
    replace fd15 := fd15.same sN
    replace ft16 := ft16.same sN
    replace ft18 := ft18.same sN
    have ft19 : Od K (upd G t19 (.tup [.ref t18])) (.ref t19) := od_tup eN (by simp) (fun x hx => by simp only [List.mem_cons, List.not_mem_nil, or_false] at hx; rcases hx with rfl; exact ft18)
    replace sG := sG.trans sN
    clear sN eN
    clear ft18
    revert sG f0 ft1 ft2 fl3 fd4 ft6 ft9 ft10 ft11 ft12 ft14 fd15 ft16 ft19
    generalize upd G t19 (.tup [.ref t18]) = G
    clear ht19
    intro f0 ft1 ft2 fl3 fd4 ft6 ft9 ft10 ft11 ft12 ft14 fd15 ft16 ft19 sG
    refine ⟨_, rfl, (by show 22 ≤ sizeLine; decide), fun lr hlr => ?_⟩
    have sN : Same G (upd G lr (.lst [v0, .ref t1, .non, .int 0, .int 1, .bl true, .bl false, .str "", .str "x", .ref t2, .ref l3, .ref d4, .ref t6, .ref t9, .ref t10, .ref t11, .ref t12, .ref t14, .ref d15, .ref t16, .ref t19, .int (-1)])) := Same.one hlr
    refine q _ lr _ (sG.trans sN) upd_same rfl fun x hx => ?_
    simp only [List.mem_cons, List.not_mem_nil, or_false] at hx
    rcases hx with rfl | rfl | rfl | rfl | rfl | rfl | rfl | rfl | rfl | rfl | rfl | rfl | rfl | rfl | rfl | rfl | rfl | rfl | rfl | rfl | rfl | rfl
    · exact (f0.same sN).ok
    · exact (ft1.same sN).ok
    · exact od_non.ok
    · exact (od_int _).ok
    · exact (od_int _).ok
    · exact (od_bl _).ok
    · exact (od_bl _).ok
    · exact (od_str (by decide +kernel) (by decide +kernel)).ok
    · exact (od_str (by decide +kernel) (by decide +kernel)).ok
    · exact (ft2.same sN).ok
    · exact (fl3.same sN).ok
    · exact fd4.same sN
    · exact (ft6.same sN).ok
    · exact (ft9.same sN).ok
    · exact (ft10.same sN).ok
    · exact (ft11.same sN).ok
    · exact (ft12.same sN).ok
    · exact (ft14.same sN).ok
    · exact fd15.same sN
    · exact (ft16.same sN).ok
    · exact (ft19.same sN).ok
    · exact (od_int _).ok
end
end K01

set_option Elab.async false
set_option linter.all false
set_option maxRecDepth 100000
set_option maxHeartbeats 4000000
namespace K01
open PySem PySem.Spec PyProof.Rows L2
/-! a def with *rows alone -/
theorem star_ok {P : Program} {w : World} {K : PySem.W.Frag} {mg : Str → Option Value} {base : Heap} {x qual : Str} {params : Arguments} {body : List Stmt} {scope : Scope} {f : Addr} {fd : FuncData} {N : List Str} {k : Nat} {pv : Str} {sp : Sp}
    (F : FunD K x qual params body scope [] [] f fd) (S : FnScope N [pv] scope)
    (hb : ∀ (kV doc pm : Value) (an : Option Addr) (cdv ct : Value) (rest : List Value), bindArgs (PySem.W.fnOf x qual params body scope .none kV doc pm an cdv ct) ⟨rest, []⟩ = (newTuple rest >>= fun t => pure [(pv, t)]))
    (hbody : ∀ (cdv : Value) (A : Around) (outer : List Env) (s : Shared) (H : Hp) (vs : List V) (Q : VK) (E : XK), Room k (A.deeper (envOfC qual scope s.heap.objs.size f cdv)) → sp vs H Q E →
      ∃ t, PSs (cxOf CX0 P w K mg base N qual scope f cdv A outer s H E) body t ∧ t { nx := fun _ H' => Q .non H', rt := Q } (L2.start N vs) H) :
    FnR P w K mg base CX0 (k + 1) f (fun vs H Q E => vs.length ≤ sizeLine ∧ ∀ p, H p = none → sp [V.ref p] (upd H p (.tup vs)) Q E) := by
  obtain ⟨oc, od, dV, kV, doc, pm, an, cdv, ct, osl, rfl, lk, hcd, hd, _⟩ := F.ex
  obtain rfl : dV = .none := by
    rcases hd with h | h
    · exact h.2
    · exact absurd rfl h.1
  refine (StX.fn_star (ps := []) lk hcd S StX.cxUp_none (fun us rest hl => ?_) fun A outer s H vs Q E hr h => hbody cdv A outer s H vs Q E hr h).imp fun vs H Q E h => ⟨[], vs, rfl, rfl, h.1, fun p hp => h.2 p hp⟩
  cases us with
  | nil => exact hb kV doc pm an cdv ct rest
  | cons _ _ => simp at hl
section
variable {X : Cx} {CX : CXT} {k : Nat} {f : Addr} {sp : Sp} {E : XK} {x : Str} {e : Expr} {es : List Expr} {t : TA} {p pos : Pos}
theorem pe_callR (F : FnR X.prog X.w X.K X.mg X.base CX k f sp) (hr : Room k X.A) (hg : Gl X x) (hm : X.mg x = some (.ref f)) (hk : PySem.W.keepIn X.K (.ref f) = true) (hx : Passes CX X E)
    (ha : PA X (e :: es) t) (hdb : (x == ("__debug__" : Str)) = false := by decide) (he : starEach (e :: es) X.env = (false, eval e X.env) :: starEach es X.env := by rfl) (hpl : (backTo pos (starEach es X.env)).any (·.1) = false := by rfl) :
    PE X (.Call (.Name x p) (e :: es) [] pos) (fun σ H Q => t σ H fun vs H1 => sp vs H1 Q E) := by
  refine ⟨fun pins s σ H Q I h => ?_⟩
  refine wpAny_Call_Name_kw (ld_glob I hg hm ?_ hdb)
  refine PySem.W.callWith_K (h₀ := X.base) I.ok.mod.kin hk (thn (ha.run pos pins s σ H _ I h) fun us s1 ⟨vs, H1, I1, r, q⟩ => ⟨I1.kIn, ?_⟩) he hpl
  exact wpAny_call (run_fnR F hr hx I1 r q)
theorem pe_callR0 (F : FnR X.prog X.w X.K X.mg X.base CX k f sp) (hr : Room k X.A) (hg : Gl X x) (hm : X.mg x = some (.ref f)) (hk : PySem.W.keepIn X.K (.ref f) = true) (hx : Passes CX X E)
    (hdb : (x == ("__debug__" : Str)) = false := by decide) : PE X (.Call (.Name x p) [] [] pos) (fun σ H Q => sp [] H Q E) := by
  refine ⟨fun pins s σ H Q I h => ?_⟩
  refine wpAny_Call_Name_kw (ld_glob I hg hm ?_ hdb)
  exact PySem.W.callWith_K0 I.kIn hk (wpAny_call (run_fnR F hr hx I .nil h))
end
/-- a walk over a tuple, whatever stands at a turn -/
theorem tup_it {K : PySem.W.Frag} {a : Addr} {xs : List V} {B : (Hp → Prop) → V → Hp → Prop} {H0 : Hp} {Qd : Hp → Prop} (Pv : Nat → Hp → Prop) (h0 : Pv 0 H0) (hl : ∀ i H, i ≤ xs.length → Pv i H → SqT K H a xs)
    (hs : ∀ i x H, xs[i]? = some x → Pv i H → B (Pv (i + 1)) x H) (hd : ∀ H, Pv xs.length H → Qd H) :
    ∃ W : Nat → Nat → Hp → Prop, (∃ m, W 0 m H0) ∧ ∀ i m H, W i m H → ((Itt K a).stop i H ∧ Qd H) ∨ ((Itt K a).go i H ∧ ∃ Nx : Hp → Prop, (∀ H', Nx H' → ∃ m', m' < m ∧ W (i + 1) m' H') ∧ ∀ x H', (Itt K a).yld i H x H' → B Nx x H') := by
  refine ⟨fun i m H => m = xs.length - i ∧ i ≤ xs.length ∧ Pv i H, ⟨xs.length, by simp, Nat.zero_le _, h0⟩, ?_⟩
  rintro i m H ⟨rfl, hi, p⟩
  have q := hl i H hi p
  by_cases hlt : i < xs.length
  · refine .inr ⟨⟨xs, xs[i], q, by simp [hlt]⟩, Pv (i + 1), fun H' p' => ⟨xs.length - (i + 1), by omega, rfl, hlt, p'⟩, fun x H' y => ?_⟩
    obtain ⟨e, y⟩ := y
    subst e
    exact hs i x _ (y xs q) p
  · have e : i = xs.length := by omega
    subst e
    exact .inl ⟨⟨xs, q, Nat.le_refl _⟩, hd H p⟩
theorem sc_together2 : FnScope ["rows", "row", "effect"] ["rows"] (defScope s_together) := ⟨rfl, rfl, rfl, by decide +kernel, rfl, by decide +kernel, by decide +kernel⟩
/-- sorted, each once, some of the effects -/
def Rowl (l : List Str) (ns : List Str) : Prop := sortedS ns = true ∧ ns.Nodup ∧ (∀ x, x ∈ ns ↔ x ∈ l) ∧ ns.length ≤ 40
theorem effR_inj {a b : Str} (ha : a ∈ effs) (hb : b ∈ effs) (h : effR a = effR b) : a = b := by
  unfold effs at ha hb
  simp only [List.mem_cons, List.not_mem_nil, or_false] at ha hb
  rcases ha with e | e | e | e <;> rcases hb with f | f | f | f <;> subst e <;> subst f <;> first | rfl | (revert h; decide +kernel)
theorem effR_le2 {a b : Str} (ha : a ∈ effs) (hb : b ∈ effs) (h : ltCps b.cps.toList a.cps.toList = false) : effR a ≤ effR b := by
  unfold effs at ha hb
  simp only [List.mem_cons, List.not_mem_nil, or_false] at ha hb
  rcases ha with e | e | e | e <;> rcases hb with f | f | f | f <;> subst e <;> subst f <;> revert h <;> decide +kernel
theorem rise_lt : ∀ (l : List Str) (p : Str), risingS p l = true → (∀ x ∈ p :: l, x ∈ effs) → (p :: l).Nodup → (p :: l).Pairwise (fun a b => effR a < effR b)
  | [], p, _, _, _ => List.pairwise_cons.mpr ⟨by simp, List.Pairwise.nil⟩
  | x :: r, p, h, he, hn => by
    rw [risingS, Bool.and_eq_true] at h
    obtain ⟨hn1, hn2⟩ := List.nodup_cons.mp hn
    have ih := rise_lt r x h.2 (fun y hy => he y (List.mem_cons_of_mem _ hy)) hn2
    have hp := he p List.mem_cons_self
    have hx := he x (List.mem_cons_of_mem _ List.mem_cons_self)
    have h1 : effR p ≤ effR x := effR_le2 hp hx (by simpa using h.1)
    have h2 : effR p ≠ effR x := fun e => hn1 (by rw [effR_inj hp hx e]; exact List.mem_cons_self)
    refine List.pairwise_cons.mpr ⟨fun y hy => ?_, ih⟩
    rcases List.mem_cons.mp hy with z | z
    · subst z; omega
    · have := (List.pairwise_cons.mp ih).1 y z
      omega
theorem sorted_lt {l : List Str} (h : sortedS l = true) (he : ∀ x ∈ l, x ∈ effs) (hn : l.Nodup) : l.Pairwise (fun a b => effR a < effR b) := by
  cases l with
  | nil => exact List.Pairwise.nil
  | cons x r => exact rise_lt r x h he hn
theorem lt_uniq : ∀ {l m : List Str}, l.Pairwise (fun a b => effR a < effR b) → m.Pairwise (fun a b => effR a < effR b) → (∀ x, x ∈ l ↔ x ∈ m) → l = m
  | [], [], _, _, _ => rfl
  | [], y :: m, _, _, h => absurd ((h y).mpr List.mem_cons_self) (by simp)
  | x :: l, [], _, _, h => absurd ((h x).mp List.mem_cons_self) (by simp)
  | x :: l, y :: m, h1, h2, h => by
    obtain ⟨a1, a2⟩ := List.pairwise_cons.mp h1
    obtain ⟨b1, b2⟩ := List.pairwise_cons.mp h2
    have e : x = y := by
      rcases List.mem_cons.mp ((h x).mp List.mem_cons_self) with z | z
      · exact z
      · rcases List.mem_cons.mp ((h y).mpr List.mem_cons_self) with z2 | z2
        · exact z2.symm
        · have := b1 x z
          have := a1 y z2
          omega
    subst e
    rw [lt_uniq a2 b2 fun z => ⟨fun hz => ?_, fun hz => ?_⟩]
    · rcases List.mem_cons.mp ((h z).mp (List.mem_cons_of_mem _ hz)) with q | q
      · have := a1 z hz
        rw [q] at this; omega
      · exact q
    · rcases List.mem_cons.mp ((h z).mpr (List.mem_cons_of_mem _ hz)) with q | q
      · have := b1 z hz
        rw [q] at this; omega
      · exact q
theorem Rowl.uniq {l a b : List Str} (h1 : Rowl l a) (h2 : Rowl l b) (he : ∀ x ∈ l, x ∈ effs) : a = b :=
  lt_uniq (sorted_lt h1.1 (fun x hx => he x ((h1.2.2.1 x).mp hx)) h1.2.1) (sorted_lt h2.1 (fun x hx => he x ((h2.2.2.1 x).mp hx)) h2.2.1) fun x => (h1.2.2.1 x).trans (h2.2.2.1 x).symm
theorem Rowl.nil {a : List Str} (h : Rowl [] a) : a = [] := List.eq_nil_iff_forall_not_mem.mpr fun x hx => by have := (h.2.2.1 x).mp hx; cases this
/-- rows of texts, each a tuple -/
def RowsAt (K : PySem.W.Frag) (H : Hp) (rs : List Addr) (ls : List (List Str)) : Prop := rs.length = ls.length ∧ rs.length ≤ 10 ∧ (∀ l ∈ ls, l.length ≤ 4) ∧ ∀ (i : Nat) (r : Addr) (l : List Str), rs[i]? = some r → ls[i]? = some l → SqT K H r (l.map V.str)
theorem RowsAt.same {K : PySem.W.Frag} {H H' : Hp} {rs : List Addr} {ls : List (List Str)} (h : RowsAt K H rs ls) (s : Same H H') : RowsAt K H' rs ls := ⟨h.1, h.2.1, h.2.2.1, fun i r l a b => s.sqt (h.2.2.2 i r l a b)⟩
theorem flat_len : ∀ {ls : List (List Str)}, (∀ l ∈ ls, l.length ≤ 4) → ls.flatten.length ≤ 4 * ls.length
  | [], _ => by simp
  | l :: ls, h => by
    have := flat_len fun m hm => h m (List.mem_cons_of_mem _ hm)
    have := h l List.mem_cons_self
    rw [List.flatten_cons, List.length_append, List.length_cons]; omega
def spTog (K : PySem.W.Frag) : Sp := fun vs H Q _ => ∃ (rs : List Addr) (ls : List (List Str)), vs = rs.map V.ref ∧ RowsAt K H rs ls ∧ ∀ H' t ns, Same H H' → H' t = some (.tup (ns.map V.str)) → Rowl ls.flatten ns → Q (.ref t) H'
def spTog1 (K : PySem.W.Frag) : Sp := fun vs H Q _ => ∃ (p : Addr) (rs : List Addr) (ls : List (List Str)), vs = [.ref p] ∧ SqT K H p (rs.map V.ref) ∧ RowsAt K H rs ls ∧ ∀ H' t ns, Same H H' → H' t = some (.tup (ns.map V.str)) → Rowl ls.flatten ns → Q (.ref t) H'
def spRowOf (K : PySem.W.Frag) : Sp := fun vs H Q _ => ∃ (p : Addr) (rs : List Addr) (ls : List (List Str)), vs = [.ref p] ∧ SqL K H p (rs.map V.ref) ∧ RowsAt K H rs ls ∧ ∀ H' t ns, Same H H' → H' t = some (.tup (ns.map V.str)) → Rowl ls.flatten ns → Q (.ref t) H'
section
variable {P : Program} {w : World} {K : PySem.W.Frag} {mg : Str → Option Value} {base : Heap} (T : Txt K mg)
include T
theorem ok_together : FnR P w K mg base CX0 1 (He.ga K "together") (spTog K) := by
  refine (star_ok (k := 0) (pv := "rows") (sp := spTog1 K) T.F_together sc_together2 (fun kV doc pm an cdv ct rest => by cases rest <;> rfl) fun cdv A outer s H vs Q E hr h => ?_).imp fun vs H Q E h => ?_
  · obtain ⟨p, rs, ls, rfl, hp, hR, q⟩ := h
    refine ⟨_, PSs.nox (pss_one (ps_ret (pe_callTy (r := rTupOf K) call_tuple_of (by rfl) T.tuple (by decide +kernel) (pa_cons (pe_callB (R01.cr_sortedSetS rfl) (by rfl) T.sorted (by decide +kernel) (pa_cons (pe_callTy (R01.cr_setOfS rfl) (by rfl) T.set (by decide +kernel) (pa_cons
      (pe_lc2 (own := [("row", 1), ("effect", 2)]) (vs1 := [2]) (g := gName 1) (g1 := gName 2) (tt := tYes) (tt1 := tYes) (wi1 := iTup K (tVar 1)) (te := tVar 2) (by rfl) sc_together2.nd (pi_tup (pv 0)) (blkOk_by (own := [("row", 1), ("effect", 2)]) (N := ["rows", "row", "effect"]) (sc := defScope s_together) (by decide +kernel)) (by decide)
        (fun _ _ _ _ _ => pg_name (i := 1) sc_together2.nd rfl (.inl rfl)) (fun _ _ _ _ _ => pts_nil) (fun _ _ _ _ _ => pi_tup (pv 1)) (fun _ _ _ _ _ => pg_name (i := 2) sc_together2.nd rfl (.inl rfl)) (fun _ _ _ _ _ => pts_nil) (fun _ _ _ _ _ => pv 2))
      pa_nil)) pa_nil)) pa_nil)))), ?_⟩
    have hfl := flat_len hR.2.2.1
    refine ⟨_, rfl, p, rfl, ⟨_, hp⟩, fun D hD => ?_⟩
    refine tup_it (K := K) (a := p) (xs := rs.map V.ref) (fun i H3 => Same H H3 ∧ H3 D = some (.lst ((ls.take i).flatten.map V.str))) ⟨Same.one hD, upd_same⟩ (fun i H3 _ h => h.1.sqt hp) (fun i x H3 hi h => ?_) (fun H3 h => ?_)
    · rw [List.getElem?_map] at hi
      obtain ⟨r, hr, rfl⟩ := Option.map_eq_some_iff.mp hi
      obtain ⟨l, hl⟩ : ∃ l, ls[i]? = some l := ⟨_, List.getElem?_eq_getElem (by have := (List.getElem?_eq_some_iff.mp hr).1; have := hR.1; omega)⟩
      have hrl := hR.2.2.2 i r l hr hl
      have hll := hR.2.2.1 l (List.mem_of_getElem? hl)
      obtain ⟨s3, h3⟩ := h
      refine ⟨rfl, _, rfl, r, rfl, ⟨_, s3.sqt hrl⟩, ?_⟩
      refine tup_it (K := K) (a := r) (xs := l.map V.str) (fun j H4 => Same H H4 ∧ H4 D = some (.lst (((ls.take i).flatten ++ l.take j).map V.str))) ⟨s3, by rw [List.take_zero, List.append_nil]; exact h3⟩ (fun j H4 _ h => h.1.sqt hrl) (fun j y H4 hj h => ?_) (fun H4 h => ?_)
      · obtain ⟨s4, h4⟩ := h
        rw [List.getElem?_map] at hj
        obtain ⟨z, hz, rfl⟩ := Option.map_eq_some_iff.mp hj
        have htk : (ls.take i).flatten.length ≤ 4 * (ls.take i).length := flat_len fun m hm => hR.2.2.1 m (List.mem_of_mem_take hm)
        have hlt : (ls.take i).length ≤ ls.length := by rw [List.length_take]; omega
        have hl2 : (l.take j).length ≤ l.length := by rw [List.length_take]; omega
        have hr1 := hR.1
        have hr2 := hR.2.1
        refine ⟨rfl, _, rfl, _, h4, by rw [List.length_map, List.length_append, sizeLine_eq]; omega, s4.upd_new hD, ?_⟩
        rw [upd_same, List.take_add_one, hz]
        simp
      · obtain ⟨s4, h4⟩ := h
        rw [List.length_map, List.take_of_length_le (Nat.le_refl _)] at h4
        refine ⟨s4, ?_⟩
        rw [h4, List.take_add_one, hl]
        simp
    · obtain ⟨s3, h3⟩ := h
      rw [List.length_map, hR.1, List.take_of_length_le (Nat.le_refl _)] at h3
      have hr1 := hR.1
      have hr2 := hR.2.1
      refine ⟨D, ls.flatten, rfl, sql_new h3, by omega, fun p5 n5 hn5 hp5 => ?_⟩
      refine ⟨p5, _, n5, rfl, upd_same, by omega, fun ns q5 hs hnd hm hl hq5 => ?_⟩
      refine ⟨q5, _, rfl, .inl ⟨sql_new upd_same, fun t ht => ?_⟩⟩
      exact q _ t ns (((s3.trans (Same.one hp5)).trans (Same.one hq5)).trans (Same.one ht)) upd_same ⟨hs, hnd, fun x => by rw [hm]; exact decide_eq_true_iff, by omega⟩
  · obtain ⟨rs, ls, rfl, hR, q⟩ := h
    have hr2 := hR.2.1
    refine ⟨by rw [List.length_map, sizeLine_eq]; omega, fun p hp => ⟨p, rs, ls, rfl, sqt_new upd_same, hR.same (Same.one hp), fun H' t ns s => q H' t ns ((Same.one hp).trans s)⟩⟩
theorem ok_rowof : FnOk P w K mg base CX0 1 (He.ga K "_law_row_of") T.d__law_row_of ["rows"] (spRowOf K) := by
  refine T.F__law_row_of.ok sc_law_row_of (fun vs H Q E h => ?_) (fun cdv A outer s H vs Q E hr h => ?_)
  · obtain ⟨p, rs, ls, rfl, _⟩ := h; rfl
  · obtain ⟨p, rs, ls, rfl, hp, hR, q⟩ := h
    refine ⟨_, PSs.nox (pss_cons (ps_set (i := 1) sc_law_row_of.nd rfl (.inl rfl) (pe_lst pa_nil))
    (pss_cons (ps_for PassesOwn.never rfl (pi_list (pv 0)) (pg_name (i := 2) sc_law_row_of.nd rfl (.inl rfl))
    (pss_one (ps_set (i := 1) sc_law_row_of.nd rfl (.inl rfl) (pe_op op_cat (pv 1) (pe_callTy (r := rListOf K) call_list_of (by rfl) T.list (by decide +kernel) (pa_cons (pv 2) pa_nil))))))
    (pss_one (ps_ret (pe_callTy (r := rTupOf K) call_tuple_of (by rfl) T.tuple (by decide +kernel) (pa_cons (pe_callB (R01.cr_sortedSetS rfl) (by rfl) T.sorted (by decide +kernel) (pa_cons (pe_callTy (R01.cr_setOfS rfl) (by rfl) T.set (by decide +kernel) (pa_cons (pv 1) pa_nil)) pa_nil)) pa_nil)))))), ?_⟩
    have hfl := flat_len hR.2.2.1
    have hr1 := hR.1
    have hr2 := hR.2.1
    refine ⟨Nat.zero_le _, fun l0 hl0 => ?_⟩
    refine ⟨_, rfl, p, rfl, ⟨_, (Same.one hl0).seq hp⟩, ?_⟩
    refine for_list (K := K) (a := p) (xs := rs.map V.ref) (fun i σ H3 => Same H H3 ∧ ∃ (f : Addr) (c : Option V), σ = [some (.ref p), some (.ref f), c] ∧ H3 f = some (.lst ((ls.take i).flatten.map V.str))) ⟨Same.one hl0, l0, none, rfl, upd_same⟩ (fun i σ H3 _ h => h.1.seq hp) (fun i x σ H3 hi h => ?_) (fun σ H3 h => ?_)
    · obtain ⟨s3, f, c, rfl, h3⟩ := h
      rw [List.getElem?_map] at hi
      obtain ⟨r, hr, rfl⟩ := Option.map_eq_some_iff.mp hi
      obtain ⟨l, hl⟩ : ∃ l, ls[i]? = some l := ⟨_, List.getElem?_eq_getElem (by have := (List.getElem?_eq_some_iff.mp hr).1; omega)⟩
      have hrl := hR.2.2.2 i r l hr hl
      have hll := hR.2.2.1 l (List.mem_of_getElem? hl)
      refine ⟨_, rfl, _, rfl, r, _, rfl, .inr (s3.sqt hrl), fun g hg => ?_⟩
      have htk : (ls.take i).flatten.length ≤ 4 * (ls.take i).length := flat_len fun m hm => hR.2.2.1 m (List.mem_of_mem_take hm)
      have hlt : (ls.take i).length ≤ ls.length := by rw [List.length_take]; omega
      refine ⟨f, g, _, _, rfl, rfl, (Same.one hg) _ _ h3, upd_same, by rw [List.length_map, List.length_map, sizeLine_eq]; omega, fun p6 hp6 => ?_⟩
      refine ⟨(s3.trans (Same.one hg)).trans (Same.one hp6), p6, _, rfl, ?_⟩
      rw [upd_same, List.take_add_one, hl]
      simp
    · obtain ⟨s3, f, c, rfl, h3⟩ := h
      rw [List.length_map, hr1, List.take_of_length_le (Nat.le_refl _)] at h3
      refine ⟨_, rfl, f, ls.flatten, rfl, sql_new h3, by omega, fun p5 n5 hn5 hp5 => ?_⟩
      refine ⟨p5, _, n5, rfl, upd_same, by omega, fun ns q5 hs hnd hm hl hq5 => ?_⟩
      refine ⟨q5, _, rfl, .inl ⟨sql_new upd_same, fun t ht => ?_⟩⟩
      exact q _ t ns (((s3.trans (Same.one hp5)).trans (Same.one hq5)).trans (Same.one ht)) upd_same ⟨hs, hnd, fun x => by rw [hm]; exact decide_eq_true_iff, by omega⟩
end
end K01

set_option Elab.async false
set_option linter.all false
set_option maxRecDepth 100000
set_option maxHeartbeats 4000000
namespace K01
open PySem PySem.Spec PyProof.Rows L2
abbrev lawN : List Str := ["script", "pool", "turn", "one", "two", "three", "every", "a", "b", "c", "rows", "deep", "value", "k", "effect"]
abbrev lawX (P : Program) (w : World) (K : PySem.W.Frag) (mg : Str → Option Value) (base : Heap) (cdv : Value) (A : Around) (outer : List Env) (s : Shared) (H0 : Hp) (E : XK) : Cx := (cxOf CX0 P w K mg base lawN "law" (defScope s_law) (He.ga K "law") cdv A outer s H0 E).nox
abbrev lawSt (i : Nat) : Stmt := (defBody s_law).getD i (.Pass ⟨0, 0, 0, 0⟩)
def bodyOf : Stmt → List Stmt
  | .For _ _ b _ _ => b
  | _ => []
abbrev inSt (i : Nat) : Stmt := (bodyOf (lawSt 1)).getD i (.Pass ⟨0, 0, 0, 0⟩)
abbrev slots (a pl : Addr) (x2 x3 x4 x5 x6 x7 x8 x9 x10 x11 x12 : Option V) : L2.St := [some (.ref a), some (.ref pl), x2, x3, x4, x5, x6, x7, x8, x9, x10, x11, x12, none, none]
abbrev LRoom (A : Around) (s : Shared) (K : PySem.W.Frag) (cdv : Value) : Prop := Room 16 (A.deeper (envOfC "law" (defScope s_law) s.heap.objs.size (He.ga K "law") cdv))
/-- a list of kinds -/
def KdL (K : PySem.W.Frag) (H : Hp) (e : Addr) (L : List (V × Kd)) : Prop := H e = some (.lst (L.map Prod.fst)) ∧ ∀ p ∈ L, Dp K H p.1 (toD p.2) ∧ rank p.2 < 5
theorem KdL.same {K : PySem.W.Frag} {H H' : Hp} {e : Addr} {L : List (V × Kd)} (h : KdL K H e L) (s : Same H H') : KdL K H' e L := ⟨s _ _ h.1, fun p hp => ⟨(h.2 p hp).1.same s, (h.2 p hp).2⟩⟩
theorem KdL.at {K : PySem.W.Frag} {H : Hp} {e : Addr} {L : List (V × Kd)} (h : KdL K H e L) {i : Nat} {x : V} (hi : (L.map Prod.fst)[i]? = some x) : ∃ k, Dp K H x (toD k) ∧ rank k < 5 := by
  rw [List.getElem?_map] at hi
  obtain ⟨p, hp, rfl⟩ := Option.map_eq_some_iff.mp hi
  exact ⟨p.2, h.2 p (List.mem_of_getElem? hp)⟩
theorem sml_jd {n : Nat} {a b : Kd} (ha : rank a < 5) (hb : rank b < 5) : Sml (jd n a b) ∧ (jd n a b).depth ≤ 11 := by
  unfold jd
  split
  · exact ⟨(tv_toD b 4 (by omega)).sml, by have := dep_toD b; omega⟩
  · split
    · exact ⟨(tv_toD a 4 (by omega)).sml, by have := dep_toD a; omega⟩
    · exact ⟨.non, by rw [PyData.depth]; omega⟩
theorem pair_ok {b : Bool} {d : PyData} (hs : Sml d) (hd : d.depth ≤ 11) : Sml (.list [.bool b, d]) ∧ (PyData.list [.bool b, d]).depth < 13 := by
  refine ⟨.lst (by simp) fun x hx => ?_, ?_⟩
  · simp at hx
    rcases hx with rfl | rfl
    · exact .bl b
    · exact hs
  · rw [PyData.depth, dp_cons, dp_cons, dp_nil, PyData.depth]; omega
section
variable {P : Program} {w : World} {K : PySem.W.Frag} {mg : Str → Option Value} {base : Heap} (T : Txt K mg)
include T
theorem bt3 {cdv : Value} {A : Around} {outer : List Env} {s : Shared} {H0 : Hp} {E : XK} (hr : LRoom A s K cdv) :
    ∃ tt : TS, PS (lawX P w K mg base cdv A outer s H0 E) (inSt 3) tt ∧ ∀ (D : Ends) (H9 : Hp) (a pl e : Addr) (x2 x3 x4 x5 x7 x8 x9 x10 x11 x12 : Option V) (L : List (V × Kd)), KdL K H9 e L →
      (∀ H x7 x8 x9, Same H9 H → D.nx (slots a pl x2 x3 x4 x5 (some (.ref e)) x7 x8 x9 x10 x11 x12) H) → tt D (slots a pl x2 x3 x4 x5 (some (.ref e)) x7 x8 x9 x10 x11 x12) H9 := by
  have G_fits := ok_fits (P := P) (w := w) (base := base) T 5
  have G_joined := ok_joined (P := P) (w := w) (base := base) T 5
  have G__law_fits := ok_lfits (P := P) (w := w) (base := base) T 5
  have G__law_joined := ok_ljoined (P := P) (w := w) (base := base) T 5
  have G__law_same := ok_same (P := P) (w := w) (base := base) T 13
  refine ⟨_, (ps_for PassesOwn.never rfl (pi_list (pv 6)) (pg_name (i := 7) sc_law.nd rfl (.inl rfl))
    (pss_cons (ps_if (PW.pt (pw_or (pt_not (pt_val (pe_call G_fits (hr.mono (by omega)) (by rfl) T.g_fits T.F_fits.kp T.b_fits .nil pass0 (pa_cons (pv 7) (pa_cons (pv 7) pa_nil))))) (pw_or1 (pt_not (pt_val (pe_call G_fits (hr.mono (by omega)) (by rfl) T.g_fits T.F_fits.kp T.b_fits .nil pass0 (pa_cons (pe_tup (pa_cons pe_str pa_nil)) (pa_cons (pv 7) pa_nil))))))))
    (pss_one (ps_ret pe_bl))
    pss_nil)
    (pss_one (ps_for PassesOwn.never rfl (pi_list (pv 6)) (pg_name (i := 8) sc_law.nd rfl (.inl rfl))
    (pss_cons (ps_if (PW.pt (pw_or (pt_not (pt_val (pe_call G__law_same (hr.mono (by omega)) (by rfl) T.g__law_same T.F__law_same.kp T.b__law_same .nil pass0 (pa_cons (pe_lst (pa_cons (pe_call G_fits (hr.mono (by omega)) (by rfl) T.g_fits T.F_fits.kp T.b_fits .nil pass0 (pa_cons (pv 7) (pa_cons (pv 8) pa_nil))) (pa_cons (pe_call G_joined (hr.mono (by omega)) (by rfl) T.g_joined T.F_joined.kp T.b_joined .nil pass0 (pa_cons (pv 7) (pa_cons (pv 8) pa_nil))) pa_nil))) (pa_cons (pe_lst (pa_cons (pe_call G__law_fits (hr.mono (by omega)) (by rfl) T.g__law_fits T.F__law_fits.kp T.b__law_fits .nil pass0 (pa_cons (pv 7) (pa_cons (pv 8) pa_nil))) (pa_cons (pe_call G__law_joined (hr.mono (by omega)) (by rfl) T.g__law_joined T.F__law_joined.kp T.b__law_joined .nil pass0 (pa_cons (pv 7) (pa_cons (pv 8) pa_nil))) pa_nil))) pa_nil))))) (pw_or1 (PW.pt (pw_and (pt_val (pe_call G_fits (hr.mono (by omega)) (by rfl) T.g_fits T.F_fits.kp T.b_fits .nil pass0 (pa_cons (pv 7) (pa_cons (pv 8) pa_nil)))) (pw_and (pt_val (pe_call G_fits (hr.mono (by omega)) (by rfl) T.g_fits T.F_fits.kp T.b_fits .nil pass0 (pa_cons (pv 8) (pa_cons (pv 7) pa_nil)))) (pw_and1 (pt_cmpR (r := rNeM K) (op_neM hr.units) (pv 7) (pv 8) (nomark _)))))))))
    (pss_one (ps_ret pe_bl))
    pss_nil)
    (pss_one (ps_for PassesOwn.never rfl (pi_list (pv 6)) (pg_name (i := 9) sc_law.nd rfl (.inl rfl))
    (pss_one (ps_if (PW.pt (pw_and (pt_val (pe_call G_fits (hr.mono (by omega)) (by rfl) T.g_fits T.F_fits.kp T.b_fits .nil pass0 (pa_cons (pv 7) (pa_cons (pv 8) pa_nil)))) (pw_and (pt_val (pe_call G_fits (hr.mono (by omega)) (by rfl) T.g_fits T.F_fits.kp T.b_fits .nil pass0 (pa_cons (pv 8) (pa_cons (pv 9) pa_nil)))) (pw_and1 (pt_not (pt_val (pe_call G_fits (hr.mono (by omega)) (by rfl) T.g_fits T.F_fits.kp T.b_fits .nil pass0 (pa_cons (pv 7) (pa_cons (pv 9) pa_nil)))))))))
    (pss_one (ps_ret pe_bl))
    pss_nil))))))))), ?_⟩
  intro D H9 a pl e x2 x3 x4 x5 x7 x8 x9 x10 x11 x12 L hL q
  have eL := hL.1
  refine ⟨_, rfl, e, rfl, ⟨_, sql_new eL⟩, ?_⟩
  refine for_list (K := K) (a := e) (xs := L.map Prod.fst) (fun _ σ H' => Same H9 H' ∧ ∃ x7 x8 x9, σ = slots a pl x2 x3 x4 x5 (some (.ref e)) x7 x8 x9 x10 x11 x12) ⟨Same.refl _, _, _, _, rfl⟩ (fun _ σ H' _ h => sql_new (h.1 _ _ eL)) (fun i va σ H' hi h => ?_) (fun σ H' h => ?_)
  rotate_left
  · obtain ⟨s1, y7, y8, y9, rfl⟩ := h
    exact q H' y7 y8 y9 s1
  obtain ⟨s1, y7, y8, y9, rfl⟩ := h
  obtain ⟨ka, da, ra⟩ := (hL.same s1).at hi
  clear hi
  refine ⟨_, rfl, _, rfl, va, va, ka, ka, rfl, by decide, ra, ra, da, da, fun H1 s2 => ⟨_, rfl, ?_⟩⟩
  rw [fits_self]
  refine iteF ⟨(by show 1 ≤ sizeLine; decide), fun t1 ht1 => ?_⟩
  have s3 : Same H1 (upd H1 t1 (.tup [.str "never"])) := Same.one ht1
  refine ⟨_, rfl, .ref t1, va, .never, ka, rfl, by decide, by decide, ra, .tup (sqt_new upd_same) (.cons (.str _) .nil), da.same (s2.trans s3), fun H2 s4 => ⟨_, rfl, ?_⟩⟩
  rw [fits_never]
  refine iteF ?_
  have sA := (s1.trans s2).trans (s3.trans s4)
  have eL2 := sA _ _ eL
  have da2 := da.same (s2.trans (s3.trans s4))
  clear da s1 s2 s3 s4 ht1
  refine ⟨_, rfl, e, rfl, ⟨_, sql_new eL2⟩, ?_⟩
  refine for_list (K := K) (a := e) (xs := L.map Prod.fst) (fun _ σ H' => Same H2 H' ∧ ∃ x8 x9, σ = slots a pl x2 x3 x4 x5 (some (.ref e)) (some va) x8 x9 x10 x11 x12) ⟨Same.refl _, _, _, rfl⟩ (fun _ σ H' _ h => sql_new (h.1 _ _ eL2)) (fun i vb σ H3 hi h => ?_) (fun σ H3 h => ?_)
  rotate_left
  · obtain ⟨s5, y8, y9, rfl⟩ := h
    exact ⟨sA.trans s5, _, _, _, rfl⟩
  obtain ⟨s5, y8, y9, rfl⟩ := h
  obtain ⟨kb, db, rb⟩ := ((hL.same sA).same s5).at hi
  clear hi
  have da3 := da2.same s5
  refine ⟨_, rfl, _, rfl, va, vb, ka, kb, rfl, by decide, ra, rb, da3, db, fun H4 s6 => ?_⟩
  refine ⟨_, rfl, _, rfl, va, vb, ka, kb, rfl, by decide, ra, rb, da3.same s6, db.same s6, fun H5 v1 s7 j1 => ?_⟩
  refine ⟨(by show 2 ≤ sizeLine; decide), fun l1 hl1 => ?_⟩
  have s8 : Same H5 (upd H5 l1 (.lst [.bl (fitsN 5 ka kb), v1])) := Same.one hl1
  have d1 : Dp K (upd H5 l1 (.lst [.bl (fitsN 5 ka kb), v1])) (.ref l1) (.list [.bool (fitsN 5 ka kb), jd 5 ka kb]) := .lst (sql_new upd_same) (.cons (.bl _) (.cons (j1.same s8) .nil))
  have sB := (s6.trans s7).trans s8
  refine ⟨_, rfl, _, rfl, va, vb, ka, kb, rfl, by decide, ra, rb, da3.same sB, db.same sB, fun H6 s9 => ?_⟩
  refine ⟨_, rfl, _, rfl, va, vb, ka, kb, rfl, by decide, ra, rb, da3.same (sB.trans s9), db.same (sB.trans s9), fun H7 v2 s10 j2 => ?_⟩
  refine ⟨(by show 2 ≤ sizeLine; decide), fun l2 hl2 => ?_⟩
  have s11 : Same H7 (upd H7 l2 (.lst [.bl (fitsN 5 ka kb), v2])) := Same.one hl2
  have d2 : Dp K (upd H7 l2 (.lst [.bl (fitsN 5 ka kb), v2])) (.ref l2) (.list [.bool (fitsN 5 ka kb), jd 5 ka kb]) := .lst (sql_new upd_same) (.cons (.bl _) (.cons (j2.same s11) .nil))
  have sj := sml_jd (n := 5) ra rb
  have pk := pair_ok (b := fitsN 5 ka kb) sj.1 sj.2
  refine ⟨.ref l1, .ref l2, _, rfl, by decide, pk.2, pk.1, d1.same ((s9.trans s10).trans s11), d2, fun H8 s12 => ⟨_, rfl, iteF ?_⟩⟩
  have sC := (sB.trans ((s9.trans s10).trans s11)).trans s12
  have da4 := da3.same sC
  have db4 := db.same sC
  have s5' := s5.trans sC
  clear s6 s7 s8 s9 s10 s11 s12 sB d1 d2 j1 j2 da3 db
  have eL8 := (sA.trans s5') _ _ eL
  refine ⟨_, rfl, _, rfl, va, vb, ka, kb, rfl, by decide, ra, rb, da4, db4, fun Ha sa => ⟨_, rfl, ?_⟩⟩
  by_cases f1 : fitsN 5 ka kb = true
  rotate_left
  · rw [eq_false_of_ne_true f1]
    have hk := s5'.trans sa
    have sx := sa
    refine ⟨_, rfl, e, rfl, ⟨_, sql_new (sx _ _ eL8)⟩, ?_⟩
    refine for_list (K := K) (a := e) (xs := L.map Prod.fst) (fun _ σ H' => Same H8 H' ∧ ∃ x9, σ = slots a pl x2 x3 x4 x5 (some (.ref e)) (some va) (some vb) x9 x10 x11 x12) ⟨sx, _, rfl⟩ (fun _ σ H' _ h => sql_new (h.1 _ _ eL8)) (fun i vc σ Hc hi h => ?_) (fun σ Hc h => ?_)
    rotate_left
    · obtain ⟨sc, z9, rfl⟩ := h
      exact ⟨s5'.trans sc, _, _, rfl⟩
    obtain ⟨sc, z9, rfl⟩ := h
    obtain ⟨kc, dc, rc⟩ := ((hL.same (sA.trans s5')).same sc).at hi
    have dac := da4.same sc
    have dbc := db4.same sc
    refine ⟨_, rfl, _, rfl, va, vb, ka, kb, rfl, by decide, ra, rb, dac, dbc, fun H11 s11 => ⟨_, rfl, ?_⟩⟩
    by_cases g1 : fitsN 5 ka kb = true
    rotate_left
    · rw [eq_false_of_ne_true g1]
      exact ⟨sc.trans s11, _, rfl⟩
    rw [g1]
    refine iteT ⟨_, rfl, _, rfl, vb, vc, kb, kc, rfl, by decide, rb, rc, dbc.same s11, dc.same s11, fun H12 s12 => ⟨_, rfl, ?_⟩⟩
    by_cases g2 : fitsN 5 kb kc = true
    rotate_left
    · rw [eq_false_of_ne_true g2]
      exact ⟨sc.trans (s11.trans s12), _, rfl⟩
    rw [g2]
    refine iteT ⟨_, rfl, _, rfl, va, vc, ka, kc, rfl, by decide, ra, rc, dac.same (s11.trans s12), dc.same (s11.trans s12), fun H13 s13 => ⟨_, rfl, ?_⟩⟩
    rw [fits_trans 5 ka kb kc g1 g2]
    exact ⟨sc.trans ((s11.trans s12).trans s13), _, rfl⟩
  rw [f1]
  refine iteT ⟨_, rfl, _, rfl, vb, va, kb, ka, rfl, by decide, rb, ra, db4.same sa, da4.same sa, fun Hb sb => ⟨_, rfl, ?_⟩⟩
  by_cases f2 : fitsN 5 kb ka = true
  rotate_left
  · rw [eq_false_of_ne_true f2]
    have hk := s5'.trans (sa.trans sb)
    have sx := sa.trans sb
    refine ⟨_, rfl, e, rfl, ⟨_, sql_new (sx _ _ eL8)⟩, ?_⟩
    refine for_list (K := K) (a := e) (xs := L.map Prod.fst) (fun _ σ H' => Same H8 H' ∧ ∃ x9, σ = slots a pl x2 x3 x4 x5 (some (.ref e)) (some va) (some vb) x9 x10 x11 x12) ⟨sx, _, rfl⟩ (fun _ σ H' _ h => sql_new (h.1 _ _ eL8)) (fun i vc σ Hc hi h => ?_) (fun σ Hc h => ?_)
    rotate_left
    · obtain ⟨sc, z9, rfl⟩ := h
      exact ⟨s5'.trans sc, _, _, rfl⟩
    obtain ⟨sc, z9, rfl⟩ := h
    obtain ⟨kc, dc, rc⟩ := ((hL.same (sA.trans s5')).same sc).at hi
    have dac := da4.same sc
    have dbc := db4.same sc
    refine ⟨_, rfl, _, rfl, va, vb, ka, kb, rfl, by decide, ra, rb, dac, dbc, fun H11 s11 => ⟨_, rfl, ?_⟩⟩
    by_cases g1 : fitsN 5 ka kb = true
    rotate_left
    · rw [eq_false_of_ne_true g1]
      exact ⟨sc.trans s11, _, rfl⟩
    rw [g1]
    refine iteT ⟨_, rfl, _, rfl, vb, vc, kb, kc, rfl, by decide, rb, rc, dbc.same s11, dc.same s11, fun H12 s12 => ⟨_, rfl, ?_⟩⟩
    by_cases g2 : fitsN 5 kb kc = true
    rotate_left
    · rw [eq_false_of_ne_true g2]
      exact ⟨sc.trans (s11.trans s12), _, rfl⟩
    rw [g2]
    refine iteT ⟨_, rfl, _, rfl, va, vc, ka, kc, rfl, by decide, ra, rc, dac.same (s11.trans s12), dc.same (s11.trans s12), fun H13 s13 => ⟨_, rfl, ?_⟩⟩
    rw [fits_trans 5 ka kb kc g1 g2]
    exact ⟨sc.trans ((s11.trans s12).trans s13), _, rfl⟩
  rw [f2]
  have dab := da4.same (sa.trans sb)
  have dbb := db4.same (sa.trans sb)
  refine iteT ⟨_, rfl, _, rfl, toD ka, toD kb, dab, dbb, lay_toD ka, lay_toD kb, min_dep (n := 5) (by decide) ra, _, rfl, ?_⟩
  rw [eq_kd, fits_anti 5 ka kb f1 f2, decide_eq_true rfl]
  have hk := s5'.trans (sa.trans sb)
  have sx := sa.trans sb
  refine ⟨_, rfl, e, rfl, ⟨_, sql_new (sx _ _ eL8)⟩, ?_⟩
  refine for_list (K := K) (a := e) (xs := L.map Prod.fst) (fun _ σ H' => Same H8 H' ∧ ∃ x9, σ = slots a pl x2 x3 x4 x5 (some (.ref e)) (some va) (some vb) x9 x10 x11 x12) ⟨sx, _, rfl⟩ (fun _ σ H' _ h => sql_new (h.1 _ _ eL8)) (fun i vc σ Hc hi h => ?_) (fun σ Hc h => ?_)
  rotate_left
  · obtain ⟨sc, z9, rfl⟩ := h
    exact ⟨s5'.trans sc, _, _, rfl⟩
  obtain ⟨sc, z9, rfl⟩ := h
  obtain ⟨kc, dc, rc⟩ := ((hL.same (sA.trans s5')).same sc).at hi
  have dac := da4.same sc
  have dbc := db4.same sc
  refine ⟨_, rfl, _, rfl, va, vb, ka, kb, rfl, by decide, ra, rb, dac, dbc, fun H11 s11 => ⟨_, rfl, ?_⟩⟩
  by_cases g1 : fitsN 5 ka kb = true
  rotate_left
  · rw [eq_false_of_ne_true g1]
    exact ⟨sc.trans s11, _, rfl⟩
  rw [g1]
  refine iteT ⟨_, rfl, _, rfl, vb, vc, kb, kc, rfl, by decide, rb, rc, dbc.same s11, dc.same s11, fun H12 s12 => ⟨_, rfl, ?_⟩⟩
  by_cases g2 : fitsN 5 kb kc = true
  rotate_left
  · rw [eq_false_of_ne_true g2]
    exact ⟨sc.trans (s11.trans s12), _, rfl⟩
  rw [g2]
  refine iteT ⟨_, rfl, _, rfl, va, vc, ka, kc, rfl, by decide, ra, rc, dac.same (s11.trans s12), dc.same (s11.trans s12), fun H13 s13 => ⟨_, rfl, ?_⟩⟩
  rw [fits_trans 5 ka kb kc g1 g2]
  exact ⟨sc.trans ((s11.trans s12).trans s13), _, rfl⟩
end
end K01

set_option Elab.async false
set_option linter.all false
set_option maxRecDepth 100000
set_option maxHeartbeats 4000000
namespace K01
open PySem PySem.Spec PyProof.Rows L2
section
variable {P : Program} {w : World} {K : PySem.W.Frag} {mg : Str → Option Value} {base : Heap} (T : Txt K mg)
include T
theorem st0 {cdv : Value} {A : Around} {outer : List Env} {s : Shared} {H0 : Hp} {E : XK} (hr : LRoom A s K cdv) :
    ∃ tt : TS, PS (lawX P w K mg base cdv A outer s H0 E) (lawSt 0) tt ∧ ∀ (D : Ends) (H9 : Hp) (a : Addr) (ns : List Int), SqL K H9 a (ns.map V.int) → ns.length ≤ 63 →
      (∀ H pl sc, Pool pl sc H → D.nx (slots a pl none none none none none none none none none none none) H) → tt D [some (.ref a), none, none, none, none, none, none, none, none, none, none, none, none, none, none] H9 := by
  have G__law_pool := ok_pool (P := P) (w := w) (base := base) T
  refine ⟨_, (ps_set (i := 1) sc_law.nd rfl (.inr rfl) (pe_call G__law_pool (hr.mono (by omega)) (by rfl) T.g__law_pool T.F__law_pool.kp T.b__law_pool .nil pass0 (pa_cons (pv 0) pa_nil))), ?_⟩
  intro D H9 a ns ha hl q
  exact ⟨_, rfl, a, ns, rfl, ha, by omega, fun H' p sc _ _ hp => q H' p sc hp⟩
theorem bt0 {cdv : Value} {A : Around} {outer : List Env} {s : Shared} {H0 : Hp} {E : XK} (hr : LRoom A s K cdv) :
    ∃ tt : TS, PS (lawX P w K mg base cdv A outer s H0 E) (inSt 0) tt ∧ ∀ (D : Ends) (H9 : Hp) (a pl sc : Addr) (x2 x3 x4 x5 x6 x7 x8 x9 x10 x11 x12 : Option V), Pool pl sc H9 →
      (∀ H v k, Pool pl sc H → Kv K pl H v k → rank k ≤ 4 → D.nx (slots a pl x2 (some v) x4 x5 x6 x7 x8 x9 x10 x11 x12) H) → tt D (slots a pl x2 x3 x4 x5 x6 x7 x8 x9 x10 x11 x12) H9 := by
  have G__law_some_kind := ok_some (P := P) (w := w) (base := base) T 5
  refine ⟨_, (ps_set (i := 3) sc_law.nd rfl (.inl rfl) (pe_call G__law_some_kind (hr.mono (by omega)) (by rfl) T.g__law_some_kind T.F__law_some_kind.kp T.b__law_some_kind .nil pass0 (pa_cons (pv 1) (pa_cons pe_int pa_nil)))), ?_⟩
  intro D H9 a pl sc x2 x3 x4 x5 x6 x7 x8 x9 x10 x11 x12 hp q
  exact ⟨_, rfl, pl, sc, 4, rfl, by decide, hp, fun H v k b p kv rk => q H v k p kv rk⟩
theorem bt1 {cdv : Value} {A : Around} {outer : List Env} {s : Shared} {H0 : Hp} {E : XK} (hr : LRoom A s K cdv) :
    ∃ tt : TS, PS (lawX P w K mg base cdv A outer s H0 E) (inSt 1) tt ∧ ∀ (D : Ends) (H9 : Hp) (a pl sc : Addr) (v1 : V) (k1 : Kd) (x2 x4 x5 x6 x7 x8 x9 x10 x11 x12 : Option V), Pool pl sc H9 → Kv K pl H9 v1 k1 → rank k1 ≤ 4 →
      (∀ H v2 v3 k2 k3, Pool pl sc H → Kv K pl H v1 k1 → Kv K pl H v2 k2 → Kv K pl H v3 k3 → rank k2 ≤ 4 → rank k3 ≤ 4 → D.nx (slots a pl x2 (some v1) (some v2) (some v3) x6 x7 x8 x9 x10 x11 x12) H) → tt D (slots a pl x2 (some v1) x4 x5 x6 x7 x8 x9 x10 x11 x12) H9 := by
  have G__law_some_kind := ok_some (P := P) (w := w) (base := base) T 5
  have G__law_near := ok_near (P := P) (w := w) (base := base) T 5
  refine ⟨_, (ps_par (i := 4) (j := 5) (by rfl) sc_law.nd rfl rfl (by decide) rfl rfl (pa_cons (pe_call G__law_near (hr.mono (by omega)) (by rfl) T.g__law_near T.F__law_near.kp T.b__law_near .nil pass0 (pa_cons (pv 1) (pa_cons (pv 3) pa_nil))) (pa_cons (pe_call G__law_some_kind (hr.mono (by omega)) (by rfl) T.g__law_some_kind T.F__law_some_kind.kp T.b__law_some_kind .nil pass0 (pa_cons (pv 1) (pa_cons pe_int pa_nil))) pa_nil)) (by rfl)), ?_⟩
  intro D H9 a pl sc v1 k1 x2 x4 x5 x6 x7 x8 x9 x10 x11 x12 hp kv1 rk1 q
  refine ⟨_, rfl, _, rfl, pl, sc, v1, k1, rfl, by omega, hp, kv1, fun H1 v2 k2 b1 p1 kv2 rk2 => ?_⟩
  refine ⟨_, rfl, pl, sc, 3, rfl, by decide, p1, fun H2 v3 k3 b2 p2 kv3 rk3 => ?_⟩
  exact ⟨v2, v3, rfl, q H2 v2 v3 k2 k3 p2 (kv1.but (b1.trans b2)) (kv2.but b2) kv3 (by omega) (by omega)⟩
theorem bt2 {cdv : Value} {A : Around} {outer : List Env} {s : Shared} {H0 : Hp} {E : XK} (hr : LRoom A s K cdv) :
    ∃ tt : TS, PS (lawX P w K mg base cdv A outer s H0 E) (inSt 2) tt ∧ ∀ (D : Ends) (H9 : Hp) (a pl sc : Addr) (v1 v2 v3 : V) (k1 k2 k3 : Kd) (x2 x6 x7 x8 x9 x10 x11 x12 : Option V), Pool pl sc H9 → Kv K pl H9 v1 k1 → rank k1 ≤ 4 → Kv K pl H9 v2 k2 → rank k2 ≤ 4 → Kv K pl H9 v3 k3 → rank k3 ≤ 4 →
      (∀ H e L, Pool pl sc H → Kv K pl H v1 k1 → Kv K pl H v2 k2 → Kv K pl H v3 k3 → KdL K H e L → D.nx (slots a pl x2 (some v1) (some v2) (some v3) (some (.ref e)) x7 x8 x9 x10 x11 x12) H) → tt D (slots a pl x2 (some v1) (some v2) (some v3) x6 x7 x8 x9 x10 x11 x12) H9 := by
  have G__law_near := ok_near (P := P) (w := w) (base := base) T 5
  refine ⟨_, (ps_set (i := 6) sc_law.nd rfl (.inl rfl) (pe_lst (pa_cons (pv 3) (pa_cons (pv 4) (pa_cons (pv 5) (pa_cons (pe_call G__law_near (hr.mono (by omega)) (by rfl) T.g__law_near T.F__law_near.kp T.b__law_near .nil pass0 (pa_cons (pv 1) (pa_cons (pv 4) pa_nil))) (pa_cons (pe_tup (pa_cons pe_str pa_nil)) pa_nil))))))), ?_⟩
  intro D H9 a pl sc v1 v2 v3 k1 k2 k3 x2 x6 x7 x8 x9 x10 x11 x12 hp kv1 rk1 kv2 rk2 kv3 rk3 q
  refine ⟨_, rfl, _, rfl, _, rfl, _, rfl, _, rfl, pl, sc, v2, k2, rfl, by omega, hp, kv2, fun H1 v4 k4 b1 p1 kv4 rk4 => ?_⟩
  refine ⟨(by show 1 ≤ sizeLine; decide), fun t ht => ⟨(by show 5 ≤ sizeLine; decide), fun e he => ?_⟩⟩
  have s1 : Same H1 (upd H1 t (.tup [.str "never"])) := Same.one ht
  have s2 : Same _ (upd (upd H1 t (.tup [.str "never"])) e (.lst [v1, v2, v3, v4, .ref t])) := Same.one he
  have s12 := s1.trans s2
  have bb := s12.but pl
  have et := s2 t _ upd_same
  refine q _ e [(v1, k1), (v2, k2), (v3, k3), (v4, k4), (.ref t, .never)] (p1.same s12) ((kv1.but b1).but bb) ((kv2.but b1).but bb) ((kv3.but b1).but bb) ⟨upd_same, fun p hp => ?_⟩
  simp only [List.mem_cons, List.not_mem_nil, or_false] at hp
  rcases hp with rfl | rfl | rfl | rfl | rfl
  · exact ⟨((kv1.but b1).but bb).dp, by show rank k1 < 5; omega⟩
  · exact ⟨((kv2.but b1).but bb).dp, by show rank k2 < 5; omega⟩
  · exact ⟨((kv3.but b1).but bb).dp, by show rank k3 < 5; omega⟩
  · exact ⟨(kv4.but bb).dp, by show rank k4 < 5; omega⟩
  · exact ⟨.tup (sqt_new et) (.cons (.str _) .nil), by show (0 : Nat) < 5; decide⟩
theorem bt6 {cdv : Value} {A : Around} {outer : List Env} {s : Shared} {H0 : Hp} {E : XK} (hr : LRoom A s K cdv) :
    ∃ tt : TS, PS (lawX P w K mg base cdv A outer s H0 E) (inSt 6) tt ∧ ∀ (D : Ends) (H9 : Hp) (a pl sc : Addr) (x2 x3 x4 x5 x6 x7 x8 x9 x10 x11 x12 : Option V), Pool pl sc H9 →
      (∀ H (m : Nat), Pool pl sc H → But pl H9 H → m < 6 → D.nx (slots a pl x2 x3 x4 x5 x6 x7 x8 x9 x10 (some (.int (m : Nat))) x12) H) → tt D (slots a pl x2 x3 x4 x5 x6 x7 x8 x9 x10 x11 x12) H9 := by
  have G__law_draw := ok_draw (P := P) (w := w) (base := base) T
  refine ⟨_, (ps_set (i := 11) sc_law.nd rfl (.inl rfl) (pe_call G__law_draw (hr.mono (by omega)) (by rfl) T.g__law_draw T.F__law_draw.kp T.b__law_draw .nil pass0 (pa_cons (pv 1) (pa_cons pe_int pa_nil)))), ?_⟩
  intro D H9 a pl sc x2 x3 x4 x5 x6 x7 x8 x9 x10 x11 x12 hp q
  exact ⟨_, rfl, pl, sc, 6, rfl, hp, by decide, by decide, fun H r b p hr => q H r p b hr⟩
theorem bt7 {cdv : Value} {A : Around} {outer : List Env} {s : Shared} {H0 : Hp} {E : XK} (hr : LRoom A s K cdv) :
    ∃ tt : TS, PS (lawX P w K mg base cdv A outer s H0 E) (inSt 7) tt ∧ ∀ (D : Ends) (H9 : Hp) (a pl sc : Addr) (v1 v2 v3 : V) (k1 k2 k3 : Kd) (m : Nat) (x2 x6 x7 x8 x9 x10 x12 : Option V), Pool pl sc H9 → Kv K pl H9 v1 k1 → rank k1 ≤ 4 → Kv K pl H9 v2 k2 → rank k2 ≤ 4 → Kv K pl H9 v3 k3 → rank k3 ≤ 4 → m < 6 →
      (∀ H x12, Pool pl sc H → D.nx (slots a pl x2 (some v1) (some v2) (some v3) x6 x7 x8 x9 x10 (some (.int (m : Nat))) x12) H) → tt D (slots a pl x2 (some v1) (some v2) (some v3) x6 x7 x8 x9 x10 (some (.int (m : Nat))) x12) H9 := by
  have G__law_bends := ok_bends (P := P) (w := w) (base := base) T
  have G__law_odd_values := ok_odd (P := P) (w := w) (base := base) T
  have G_is_kind := ok_kind (P := P) (w := w) (base := base) T 13
  have G__law_is_kind := ok_lkind (P := P) (w := w) (base := base) T 13
  have G__law_same := ok_same (P := P) (w := w) (base := base) T 13
  refine ⟨_, (ps_for PassesOwn.never rfl (pi_list (pe_op op_cat (pe_op op_cat (pe_lst (pa_cons (pv 3) (pa_cons (pv 4) (pa_cons (pv 5) pa_nil)))) (pe_call G__law_bends (hr.mono (by omega)) (by rfl) T.g__law_bends T.F__law_bends.kp T.b__law_bends .nil pass0 (pa_cons (pv 1) (pa_cons (pv 3) pa_nil)))) (pe_call0 G__law_odd_values (hr.mono (by omega)) (by rfl) T.g__law_odd_values T.F__law_odd_values.kp T.b__law_odd_values .nil pass0))) (pg_name (i := 12) sc_law.nd rfl (.inl rfl))
    (pss_one (ps_if (pt_not (pt_val (pe_call G__law_same (hr.mono (by omega)) (by rfl) T.g__law_same T.F__law_same.kp T.b__law_same .nil pass0 (pa_cons (pe_lst (pa_cons (pe_call G_is_kind (hr.mono (by omega)) (by rfl) T.g_is_kind T.F_is_kind.kp T.b_is_kind .nil pass0 (pa_cons (pv 12) (pa_cons (pv 11) pa_nil))) (pa_cons (pe_call G_is_kind (hr.mono (by omega)) (by rfl) T.g_is_kind T.F_is_kind.kp T.b_is_kind .nil pass0 (pa_cons (pv 12) (pa_cons pe_int pa_nil))) pa_nil))) (pa_cons (pe_lst (pa_cons (pe_call G__law_is_kind (hr.mono (by omega)) (by rfl) T.g__law_is_kind T.F__law_is_kind.kp T.b__law_is_kind .nil pass0 (pa_cons (pv 12) (pa_cons (pv 11) pa_nil))) (pa_cons (pe_call G__law_is_kind (hr.mono (by omega)) (by rfl) T.g__law_is_kind T.F__law_is_kind.kp T.b__law_is_kind .nil pass0 (pa_cons (pv 12) (pa_cons pe_int pa_nil))) pa_nil))) pa_nil)))))
    (pss_one (ps_ret pe_bl))
    pss_nil))), ?_⟩
  intro D H9 a pl sc v1 v2 v3 k1 k2 k3 m x2 x6 x7 x8 x9 x10 x12 hp kv1 rk1 kv2 rk2 kv3 rk3 hm q
  refine ⟨_, rfl, _, rfl, _, rfl, (by show 3 ≤ sizeLine; decide), fun l1 hl1 => ?_⟩
  have nl1 := hp.ne hl1
  have s1 : Same H9 (upd H9 l1 (.lst [v1, v2, v3])) := Same.one hl1
  have e1 : (upd H9 l1 (.lst [v1, v2, v3])) l1 = some (.lst [v1, v2, v3]) := upd_same
  have b1 := s1.but pl
  refine ⟨_, rfl, _, rfl, pl, sc, v1, k1, rfl, hp.same s1, kv1.but b1, rk1, fun H2 l2 xs2 b2 p2 e2 len2 hx2 => ?_⟩
  have e12 := b2.at e1 nl1
  refine ⟨l1, l2, _, xs2, rfl, rfl, e12, e2, by rw [sizeLine_eq]; simp; omega, fun l3 hl3 => ?_⟩
  have s3 : Same H2 (upd H2 l3 (.lst ([v1, v2, v3] ++ xs2))) := Same.one hl3
  have e3 : (upd H2 l3 (.lst ([v1, v2, v3] ++ xs2))) l3 = some (.lst ([v1, v2, v3] ++ xs2)) := upd_same
  refine ⟨rfl, fun H4 l4 xs4 s4 e4 len4 hx4 => ?_⟩
  refine ⟨l3, l4, _, xs4, rfl, rfl, s4 _ _ e3, e4, by rw [sizeLine_eq]; simp; omega, fun l5 hl5 => ?_⟩
  have s5 : Same H4 (upd H4 l5 (.lst (([v1, v2, v3] ++ xs2) ++ xs4))) := Same.one hl5
  have e5 : (upd H4 l5 (.lst (([v1, v2, v3] ++ xs2) ++ xs4))) l5 = some (.lst (([v1, v2, v3] ++ xs2) ++ xs4)) := upd_same
  have s25 := (s3.trans s4).trans s5
  have b25 := b2.trans (s25.but pl)
  have p5 := p2.same s25
  have okk : ∀ v k, Kv K pl H9 v k → rank k ≤ 4 → Ok1 K (upd H4 l5 (.lst (([v1, v2, v3] ++ xs2) ++ xs4))) v := fun v k kv rk => ⟨toD k, .inl ((kv.but b1).but b25).dp, (tv_toD k 4 rk).sml⟩
  have hall : ∀ x ∈ ([v1, v2, v3] ++ xs2) ++ xs4, Ok1 K (upd H4 l5 (.lst (([v1, v2, v3] ++ xs2) ++ xs4))) x := fun x hx => by
    rcases List.mem_append.mp hx with h | h
    · rcases List.mem_append.mp h with h | h
      · simp only [List.mem_cons, List.not_mem_nil, or_false] at h
        rcases h with rfl | rfl | rfl
        · exact okk _ k1 kv1 rk1
        · exact okk _ k2 kv2 rk2
        · exact okk _ k3 kv3 rk3
      · exact (hx2 x h).od.ok.same s25
    · exact (hx4 x h).same s5
  clear hx2 hx4 okk e12 e1 e2 e3 e4 s1 s3 s4 s5 s25 b25 b1
  revert e5 p5 hall
  generalize upd H4 l5 (.lst (([v1, v2, v3] ++ xs2) ++ xs4)) = G
  generalize ([v1, v2, v3] ++ xs2) ++ xs4 = xs
  intro e5 p5 hall
  refine ⟨l5, rfl, ⟨_, sql_new e5⟩, ?_⟩
  refine for_list (K := K) (a := l5) (xs := xs) (fun _ σ H' => Same G H' ∧ ∃ x12, σ = slots a pl x2 (some v1) (some v2) (some v3) x6 x7 x8 x9 x10 (some (.int (m : Nat))) x12) ⟨Same.refl _, _, rfl⟩ (fun _ σ H' _ h => sql_new (h.1 _ _ e5)) (fun i v σ H' hi h => ?_) (fun σ H' h => ?_)
  rotate_left
  · obtain ⟨s1, y12, rfl⟩ := h
    exact q H' y12 (p5.same s1)
  obtain ⟨s1, y12, rfl⟩ := h
  obtain ⟨d, hv, hs⟩ := (hall v (List.mem_of_getElem? hi)).same s1
  refine ⟨_, rfl, _, rfl, v, d, m, rfl, by omega, hv, hs, fun H1 s2 => ?_⟩
  refine ⟨_, rfl, v, d, 12, rfl, by decide, hv.same s2, hs, fun H2 s3 => ⟨(by show 2 ≤ sizeLine; decide), fun t1 ht1 => ?_⟩⟩
  have s4 : Same H2 (upd H2 t1 (.lst [.bl (isKind m d), .bl (isKind 12 d)])) := Same.one ht1
  have d1 : Dp K (upd H2 t1 (.lst [.bl (isKind m d), .bl (isKind 12 d)])) (.ref t1) (.list [.bool (isKind m d), .bool (isKind 12 d)]) := .lst (sql_new upd_same) (.cons (.bl _) (.cons (.bl _) .nil))
  have sB := (s2.trans s3).trans s4
  refine ⟨_, rfl, _, rfl, v, d, m, rfl, by omega, hv.same sB, hs, fun H3 s5 => ?_⟩
  refine ⟨_, rfl, v, d, 12, rfl, by decide, (hv.same sB).same s5, hs, fun H4 s6 => ⟨(by show 2 ≤ sizeLine; decide), fun t2 ht2 => ?_⟩⟩
  have s7 : Same H4 (upd H4 t2 (.lst [.bl (isKind m d), .bl (isKind 12 d)])) := Same.one ht2
  have d2 : Dp K (upd H4 t2 (.lst [.bl (isKind m d), .bl (isKind 12 d)])) (.ref t2) (.list [.bool (isKind m d), .bool (isKind 12 d)]) := .lst (sql_new upd_same) (.cons (.bl _) (.cons (.bl _) .nil))
  have pk := pair_ok (b := isKind m d) (d := .bool (isKind 12 d)) (.bl _) (by rw [PyData.depth]; omega)
  refine ⟨.ref t1, .ref t2, _, rfl, by decide, pk.2, pk.1, d1.same ((s5.trans s6).trans s7), d2, fun H8 s8 => ⟨_, rfl, iteF ?_⟩⟩
  exact ⟨((s1.trans sB).trans ((s5.trans s6).trans s7)).trans s8, _, rfl⟩
end
end K01

set_option Elab.async false
set_option linter.all false
set_option maxRecDepth 100000
set_option maxHeartbeats 4000000
namespace K01
open PySem PySem.Spec PyProof.Rows L2
/-- rows drawn so far: a list of tuples of effects -/
def RwC (K : PySem.W.Frag) (pl sc : Addr) (H1 : Hp) (D : Addr) (i : Nat) (H : Hp) : Prop := But pl H1 H ∧ Pool pl sc H ∧ ∃ (rs : List Addr) (es : List Ef), H D = some (.lst (rs.map V.ref)) ∧ rs.length = i ∧ es.length = i ∧
  ∀ (j : Nat) (r : Addr) (e : Ef), rs[j]? = some r → es[j]? = some e → SqT K (hid pl H) r ((effL e).map V.str)
theorem RwC.zero {K : PySem.W.Frag} {pl sc : Addr} {H1 : Hp} {D : Addr} (p : Pool pl sc H1) (hD : H1 D = none) : RwC K pl sc H1 D 0 (upd H1 D (.lst [])) :=
  ⟨(But.refl pl H1).upd_new hD (p.ne hD), p.upd (p.ne hD) (p.nes hD), [], [], upd_same, rfl, rfl, fun j r e h => by simp at h⟩
theorem RwC.yes {K : PySem.W.Frag} {pl sc : Addr} {H1 H H4 : Hp} {D t : Addr} {i : Nat} {e : Ef} (h : RwC K pl sc H1 D i H) (p1 : Pool pl sc H1) (hD : H1 D = none) (b : But pl H H4) (p : Pool pl sc H4) (ht : SqT K (hid pl H4) t ((effL e).map V.str)) (hi : i < 100) :
    ∃ acc, H4 D = some (.lst acc) ∧ acc.length < sizeLine ∧ RwC K pl sc H1 D (i + 1) (upd H4 D (.lst (acc ++ [V.ref t]))) := by
  obtain ⟨b1, _, rs, es, hv, hl, hl2, hr⟩ := h
  have n := p1.ne hD
  have hv4 := b.at hv n
  refine ⟨_, hv4, by rw [List.length_map, sizeLine_eq]; omega, (b1.trans b).upd_new hD n, p.upd n (p1.nes hD), rs ++ [t], es ++ [e], ?_, by simp [hl], by simp [hl2], fun j r f h1 h2 => ?_⟩
  · rw [upd_same, List.map_append]; rfl
  · rw [hid_upd n]
    have h4 : hid pl H4 D = some (.lst (rs.map V.ref)) := by rw [hid_at n]; exact hv4
    refine sqt_upd ?_ h4
    by_cases hj : j < i
    · rw [List.getElem?_append_left (by omega)] at h1 h2
      exact L2.Same.sqt b (hr j r f h1 h2)
    · rw [List.getElem?_append_right (by omega)] at h1 h2
      have hj0 : j - rs.length = 0 := by
        have := (List.getElem?_eq_some_iff.mp h1).1
        simp at this; omega
      have hj1 : j - es.length = 0 := by omega
      rw [hj0] at h1
      rw [hj1] at h2
      simp at h1 h2
      subst h1; subst h2
      exact ht
theorem eff_in (e : Ef) : ∀ x ∈ effL e, x ∈ effs := by
  have g : ∀ e : Ef, ((effL e).all fun x => decide (x ∈ effs)) = true := by
    rintro ⟨a, b, c, d⟩
    cases a <;> cases b <;> cases c <;> cases d <;> decide +kernel
  intro x hx
  exact of_decide_eq_true (List.all_eq_true.mp (g e) x hx)
/-- the scope of the comprehension over k -/
abbrev kScope : Scope := { kind := .function, names := [(".0", .local), ("k", .local), ("tuple", .globalImplicit), ("_law_effects", .globalImplicit), ("pool", .cell)], isGenerator := false, isCoroutine := false }
/-- three rows of effects -/
def Rows3 (K : PySem.W.Frag) (H : Hp) (R : Addr) (rs : List Addr) (ls : List (List Str)) : Prop := H R = some (.lst (rs.map V.ref)) ∧ rs.length = 3 ∧ RowsAt K H rs ls ∧ ∀ x ∈ ls.flatten, x ∈ effs
section
variable {P : Program} {w : World} {K : PySem.W.Frag} {mg : Str → Option Value} {base : Heap} (T : Txt K mg)
include T
theorem bt4 {cdv : Value} {A : Around} {outer : List Env} {s : Shared} {H0 : Hp} {E : XK} (hr : LRoom A s K cdv) :
    ∃ tt : TS, PS (lawX P w K mg base cdv A outer s H0 E) (inSt 4) tt ∧ ∀ (D : Ends) (H9 : Hp) (a pl sc : Addr) (x2 x3 x4 x5 x6 x7 x8 x9 x10 x11 x12 : Option V), Pool pl sc H9 →
      (∀ H R rs ls, Pool pl sc H → But pl H9 H → Rows3 K H R rs ls → D.nx (slots a pl x2 x3 x4 x5 x6 x7 x8 x9 (some (.ref R)) x11 x12) H) → tt D (slots a pl x2 x3 x4 x5 x6 x7 x8 x9 x10 x11 x12) H9 := by
  have G__law_draw := ok_draw (P := P) (w := w) (base := base) T
  have G__law_effects := ok_effects (P := P) (w := w) (base := base) T
  refine ⟨_, (ps_setLc (i := 10) (own := [("k", 13)]) (g := gName 13) (tt := tYes) (by rfl) sc_law.nd rfl rfl (sw_true rfl rfl rfl (by decide +kernel)) (pi_range1 (by rfl) T.range (pa_cons pe_int pa_nil)) (blkOk_by (own := [("k", 13)]) (N := ["script", "pool", "turn", "one", "two", "three", "every", "a", "b", "c", "rows", "deep", "value", "k", "effect"]) (sc := defScope s_law) (by decide +kernel)) (fun _ _ _ _ _ => (pg_name (i := 13) sc_law.nd rfl (.inl rfl))) (fun _ _ _ _ _ => pts_nil) (fun _ _ _ _ _ => (pe_callTy (r := rTupOf K) call_tuple_of (by rfl) T.tuple (by decide +kernel) (pa_cons (pe_lc (own := [("effect", 14)]) (g := gName 14) (wi := iTup K (tCall spEffects [] E0 tNil)) (tt := tTest (tOp rEq (tCall spDraw [] E0 (tCons (tVar 1) (tCons (tC (.int 2)) tNil))) (tC (.int 0)))) (te := tVar 14) (by rfl) sc_law.nd (pi_tup (pe_call0 G__law_effects (hr.mono (by omega)) (by rfl) T.g__law_effects T.F__law_effects.kp T.b__law_effects .nil pass0)) (blkOk_by (own := [("effect", 14)]) (N := ["script", "pool", "turn", "one", "two", "three", "every", "a", "b", "c", "rows", "deep", "value", "k", "effect"]) (sc := kScope) (by decide +kernel)) (fun _ _ _ _ _ => (pg_name (i := 14) sc_law.nd rfl (.inl rfl))) (fun _ _ _ _ _ => pts_one (pt_cmpR op_eq (pe_call G__law_draw (hr.mono (by omega)) (by rfl) T.g__law_draw T.F__law_draw.kp T.b__law_draw .nil pass0 (pa_cons (pv 1) (pa_cons pe_int pa_nil))) pe_int (nomark _))) (fun _ _ _ _ _ => (pv 14))) pa_nil)))), ?_⟩
  intro D H9 a pl sc x2 x3 x4 x5 x6 x7 x8 x9 x10 x11 x12 hp q
  refine ⟨3, rfl, by decide, by decide, fun D0 hD0 => ?_⟩
  refine lc_range (lo := 0) (n := 3) (RwC K pl sc H9 D0) (RwC.zero hp hD0) (fun i H1 hi hP1 => ?_) (fun H1 hP1 => ?_)
  · have p1 := hP1.2.1
    refine ⟨rfl, ?_⟩
    refine ⟨rfl, fun c hc => ?_⟩
    have nc := p1.ne hc
    have sc1 : Same H1 (upd H1 c (.tup (effs.map V.str))) := Same.one hc
    have pc := p1.same sc1
    have bc : But pl H1 (upd H1 c (.tup (effs.map V.str))) := sc1.but pl
    have hcc : (upd H1 c (.tup (effs.map V.str))) c = some (.tup (effs.map V.str)) := upd_same
    refine ⟨c, rfl, ⟨_, sqt_new hcc⟩, fun D hD => ?_⟩
    refine lc_tup (K := K) (a := c) (xs := effs.map V.str) (EfC pl sc _ D) (EfC.zero pc hD) (fun i H3 _ hP => sqt_new (hP.1.at hcc nc)) (fun i x H3 hi hP => ?_) (fun H3 hP => ?_)
    · rw [List.getElem?_map] at hi
      obtain ⟨y, hy, rfl⟩ := Option.map_eq_some_iff.mp hi
      refine ⟨rfl, _, rfl, pl, sc, 2, rfl, hP.2.1, by decide, by decide, fun H4 r4 b4 p4 _ => ⟨rfl, _, rfl, ?_⟩⟩
      refine ite2 (fun _ => ?_) (fun _ => ?_)
      · exact ⟨_, rfl, hP.yes pc hD hy b4 p4⟩
      · exact hP.no pc hD hy b4 p4
    · obtain ⟨b3, p3, e, he⟩ := hP.end
      refine ⟨D, _, rfl, .inl ⟨sql_new he, fun te hte => ?_⟩⟩
      have nte := p3.ne hte
      have s4 : Same H3 (upd H3 te (.tup ((effL e).map V.str))) := Same.one hte
      exact hP1.yes hp hD0 ((bc.trans b3).trans (s4.but pl)) (p3.same s4) (hid_sqt upd_same nte) (by omega)
  · obtain ⟨b, p, rs, es, hv, hl, hl2, hr3⟩ := hP1
    refine q H1 D0 rs (es.map effL) p b ⟨hv, hl, ⟨by rw [List.length_map, hl, hl2], by omega, fun l hl => ?_, fun j r l h1 h2 => ?_⟩, fun x hx => ?_⟩
    · obtain ⟨e, _, rfl⟩ := List.mem_map.mp hl
      exact eff_le e
    · rw [List.getElem?_map] at h2
      obtain ⟨e, he, rfl⟩ := Option.map_eq_some_iff.mp h2
      exact (hid_le pl H1).sqt (hr3 j r e h1 he)
    · obtain ⟨l, hl, hx⟩ := List.mem_flatten.mp hx
      obtain ⟨e, _, rfl⟩ := List.mem_map.mp hl
      exact eff_in e x hx
end
end K01

set_option Elab.async false
set_option linter.all false
set_option maxRecDepth 100000
set_option maxHeartbeats 4000000
namespace K01
open PySem PySem.Spec PyProof.Rows L2
theorem sds_sml {ns : List Str} (h : ns.length ≤ 40) (he : ∀ x ∈ ns, x ∈ effs) : Sml (.tuple (sds ns)) := .tup (by unfold sds; rw [List.length_map]; omega) fun d hd => by
  obtain ⟨x, hx, rfl⟩ := List.mem_map.mp hd
  have := he x hx
  unfold effs at this
  simp only [List.mem_cons, List.not_mem_nil, or_false] at this
  rcases this with e | e | e | e <;> subst e <;> exact .str (by decide +kernel) (by decide +kernel)
section
variable {P : Program} {w : World} {K : PySem.W.Frag} {mg : Str → Option Value} {base : Heap} (T : Txt K mg)
include T
theorem bt5 {cdv : Value} {A : Around} {outer : List Env} {s : Shared} {H0 : Hp} {E : XK} (hr : LRoom A s K cdv) :
    ∃ tt : TS, PS (lawX P w K mg base cdv A outer s H0 E) (inSt 5) tt ∧ ∀ (D : Ends) (H9 : Hp) (a pl R : Addr) (rs : List Addr) (ls : List (List Str)) (x2 x3 x4 x5 x6 x7 x8 x9 x11 x12 : Option V), Rows3 K H9 R rs ls →
      (∀ H, Same H9 H → D.nx (slots a pl x2 x3 x4 x5 x6 x7 x8 x9 (some (.ref R)) x11 x12) H) → tt D (slots a pl x2 x3 x4 x5 x6 x7 x8 x9 (some (.ref R)) x11 x12) H9 := by
  have G_together := ok_together (P := P) (w := w) (base := base) T
  have G__law_row_of := ok_rowof (P := P) (w := w) (base := base) T
  have G__law_same := ok_same (P := P) (w := w) (base := base) T 13
  refine ⟨_, (ps_if (pt_not (pt_val (pe_call G__law_same (hr.mono (by omega)) (by rfl) T.g__law_same T.F__law_same.kp T.b__law_same .nil pass0 (pa_cons (pe_lst (pa_cons (pe_callR G_together (hr.mono (by omega)) (by rfl) T.g_together T.F_together.kp pass0 (pa_cons (pe_ix (r := rIxL K) ix_list (pv 10) pe_int (fun _ _ => rfl)) (pa_cons (pe_ix (r := rIxL K) ix_list (pv 10) pe_int (fun _ _ => rfl)) (pa_cons (pe_ix (r := rIxL K) ix_list (pv 10) pe_int (fun _ _ => rfl)) pa_nil)))) (pa_cons (pe_callR0 G_together (hr.mono (by omega)) (by rfl) T.g_together T.F_together.kp pass0) pa_nil))) (pa_cons (pe_lst (pa_cons (pe_call G__law_row_of (hr.mono (by omega)) (by rfl) T.g__law_row_of T.F__law_row_of.kp T.b__law_row_of .nil pass0 (pa_cons (pv 10) pa_nil)) (pa_cons (pe_tup pa_nil) pa_nil))) pa_nil)))))
    (pss_one (ps_ret pe_bl))
    pss_nil), ?_⟩
  intro D H9 a pl R rs ls x2 x3 x4 x5 x6 x7 x8 x9 x11 x12 h3 q
  obtain ⟨eR, l3, hR, hE⟩ := h3
  obtain ⟨r0, r1, r2, rfl⟩ := len3 l3
  have sR : SqL K H9 R ([r0, r1, r2].map V.ref) := sql_new eR
  refine ⟨_, rfl, R, _, _, .ref r0, rfl, rfl, sR, at_v (n := 0) rfl rfl, _, rfl, R, _, _, .ref r1, rfl, rfl, sR, at_v (n := 1) rfl rfl, _, rfl, R, _, _, .ref r2, rfl, rfl, sR, at_v (n := 2) rfl rfl, ?_⟩
  refine ⟨[r0, r1, r2], ls, rfl, hR, fun H1 t1 ns1 s1 e1 w1 => ?_⟩
  refine ⟨[], [], rfl, ⟨rfl, Nat.zero_le _, fun l hl => (by cases hl), fun i r l h => (by simp at h)⟩, fun H2 t2 ns2 s2 e2 w2 => ?_⟩
  refine ⟨(by show 2 ≤ sizeLine; decide), fun l1 hl1 => ?_⟩
  obtain rfl := w2.nil
  have s3 : Same H2 (upd H2 l1 (.lst [.ref t1, .ref t2])) := Same.one hl1
  have d1 : Dp K (upd H2 l1 (.lst [.ref t1, .ref t2])) (.ref l1) (.list [.tuple (sds ns1), .tuple []]) :=
    .lst (sql_new upd_same) (.cons (.tup (sqt_new ((s2.trans s3) _ _ e1)) (dps_strs _)) (.cons (.tup (sqt_new (s3 _ _ e2)) .nil) .nil))
  have sA := (s1.trans s2).trans s3
  refine ⟨_, rfl, R, _, ls, rfl, sA.seq sR, hR.same sA, fun H4 t4 ns4 s4 e4 w4 => ?_⟩
  refine ⟨Nat.zero_le _, fun t5 ht5 => ⟨(by show 2 ≤ sizeLine; decide), fun l2 hl2 => ?_⟩⟩
  obtain rfl := w1.uniq w4 hE
  have s5 : Same H4 (upd H4 t5 (.tup [])) := Same.one ht5
  have s6 : Same _ (upd (upd H4 t5 (.tup [])) l2 (.lst [.ref t4, .ref t5])) := Same.one hl2
  have d2 : Dp K (upd (upd H4 t5 (.tup [])) l2 (.lst [.ref t4, .ref t5])) (.ref l2) (.list [.tuple (sds ns1), .tuple []]) :=
    .lst (sql_new upd_same) (.cons (.tup (sqt_new ((s5.trans s6) _ _ e4)) (dps_strs _)) (.cons (.tup (sqt_new (s6 t5 _ upd_same)) .nil) .nil))
  have hsm : Sml (.list [.tuple (sds ns1), .tuple []]) := .lst (by simp) fun x hx => by
    simp at hx
    rcases hx with rfl | rfl
    · exact sds_sml w1.2.2.2 fun x hx => hE x ((w1.2.2.1 x).mp hx)
    · exact .tup (by simp) (by simp)
  have hdep : (PyData.list [.tuple (sds ns1), .tuple []]).depth < 13 := by
    rw [PyData.depth, dp_cons, dp_cons, dp_nil, dp_tup, dp_tup, dp_sds, dp_nil]; decide
  refine ⟨.ref l1, .ref l2, _, rfl, by decide, hdep, hsm, d1.same ((s4.trans s5).trans s6), d2, fun H8 s8 => ⟨_, rfl, iteF ?_⟩⟩
  exact q H8 (((sA.trans s4).trans (s5.trans s6)).trans s8)
end
def spLaw (K : PySem.W.Frag) : Sp := fun vs H Q _ => ∃ (a : Addr) (ns : List Int), vs = [.ref a] ∧ SqL K H a (ns.map V.int) ∧ ns.length ≤ 63 ∧ ∀ H', Q (.bl true) H'
section
variable {P : Program} {w : World} {K : PySem.W.Frag} {mg : Str → Option Value} {base : Heap} (T : Txt K mg)
include T
theorem st1 {cdv : Value} {A : Around} {outer : List Env} {s : Shared} {H0 : Hp} {E : XK} (hr : LRoom A s K cdv) :
    ∃ tt : TS, PS (lawX P w K mg base cdv A outer s H0 E) (lawSt 1) tt ∧ ∀ (D : Ends) (H9 : Hp) (a pl sc : Addr), Pool pl sc H9 →
      (∀ σ H, D.nx σ H) → tt D (slots a pl none none none none none none none none none none none) H9 := by
  obtain ⟨t0, h0, r0⟩ := bt0 (P := P) (w := w) (base := base) T (outer := outer) (H0 := H0) (E := E) hr
  obtain ⟨t1, h1, r1⟩ := bt1 (P := P) (w := w) (base := base) T (outer := outer) (H0 := H0) (E := E) hr
  obtain ⟨t2, h2, r2⟩ := bt2 (P := P) (w := w) (base := base) T (outer := outer) (H0 := H0) (E := E) hr
  obtain ⟨t3, h3, r3⟩ := bt3 (P := P) (w := w) (base := base) T (outer := outer) (H0 := H0) (E := E) hr
  obtain ⟨t4, h4, r4⟩ := bt4 (P := P) (w := w) (base := base) T (outer := outer) (H0 := H0) (E := E) hr
  obtain ⟨t5, h5, r5⟩ := bt5 (P := P) (w := w) (base := base) T (outer := outer) (H0 := H0) (E := E) hr
  obtain ⟨t6, h6, r6⟩ := bt6 (P := P) (w := w) (base := base) T (outer := outer) (H0 := H0) (E := E) hr
  obtain ⟨t7, h7, r7⟩ := bt7 (P := P) (w := w) (base := base) T (outer := outer) (H0 := H0) (E := E) hr
  refine ⟨_, ps_for PassesOwn.never rfl (pi_range1 (by rfl) T.range (pa_cons pe_int pa_nil)) (pg_name (i := 2) sc_law.nd rfl (.inl rfl)) (pss_cons h0 (pss_cons h1 (pss_cons h2 (pss_cons h3 (pss_cons h4 (pss_cons h5 (pss_cons h6 (pss_one h7)))))))), ?_⟩
  intro D H9 a pl sc hp q
  refine ⟨5, rfl, by decide, by decide, ?_⟩
  refine for_range (lo := 0) (n := 5) (fun _ σ H' => Pool pl sc H' ∧ ∃ x2 x3 x4 x5 x6 x7 x8 x9 x10 x11 x12, σ = slots a pl x2 x3 x4 x5 x6 x7 x8 x9 x10 x11 x12) ⟨hp, _, _, _, _, _, _, _, _, _, _, _, rfl⟩ (fun j σ H' hj h => ?_) (fun σ H' h => q σ H')
  obtain ⟨p, x2, x3, x4, x5, x6, x7, x8, x9, x10, x11, x12, rfl⟩ := h
  refine r0 _ _ a pl sc _ _ _ _ _ _ _ _ _ _ _ p fun H1 v1 k1 p1 kv1 rk1 => ?_
  refine r1 _ _ a pl sc v1 k1 _ _ _ _ _ _ _ _ _ _ p1 kv1 rk1 fun H2 v2 v3 k2 k3 p2 kv1 kv2 kv3 rk2 rk3 => ?_
  refine r2 _ _ a pl sc v1 v2 v3 k1 k2 k3 _ _ _ _ _ _ _ _ p2 kv1 rk1 kv2 rk2 kv3 rk3 fun H3 e L p3 kv1 kv2 kv3 hL => ?_
  refine r3 _ _ a pl e _ _ _ _ _ _ _ _ _ _ L hL fun H4 y7 y8 y9 s4 => ?_
  have b4 := s4.but pl
  refine r4 _ _ a pl sc _ _ _ _ _ _ _ _ _ _ _ (p3.same s4) fun H5 R rs ls p5 b5 hR => ?_
  have b5' := b4.trans b5
  refine r5 _ _ a pl R rs ls _ _ _ _ _ _ _ _ _ _ hR fun H6 s6 => ?_
  have b6 := b5'.trans (s6.but pl)
  refine r6 _ _ a pl sc _ _ _ _ _ _ _ _ _ _ _ (p5.same s6) fun H7 m p7 b7 hm => ?_
  have b7' := b6.trans b7
  refine r7 _ _ a pl sc v1 v2 v3 k1 k2 k3 m _ _ _ _ _ _ _ p7 (kv1.but b7') rk1 (kv2.but b7') rk2 (kv3.but b7') rk3 hm fun H8 y12 p8 => ?_
  exact ⟨p8, _, _, _, _, _, _, _, _, _, _, _, rfl⟩
theorem ok_law : FnOk P w K mg base CX0 17 (He.ga K "law") T.d_law ["script"] (spLaw K) := by
  refine T.F_law.ok sc_law (fun vs H Q E h => ?_) (fun cdv A outer s H vs Q E hr h => ?_)
  · obtain ⟨a, ns, rfl, _⟩ := h; rfl
  · obtain ⟨a, ns, rfl, hS, hlen, q⟩ := h
    obtain ⟨t0, h0, r0⟩ := st0 (P := P) (w := w) (base := base) T (outer := outer) (H0 := H) (E := E) hr
    obtain ⟨t1, h1, r1⟩ := st1 (P := P) (w := w) (base := base) T (outer := outer) (H0 := H) (E := E) hr
    refine ⟨_, PSs.nox (pss_cons h0 (pss_cons h1 (pss_one (ps_ret pe_bl)))), ?_⟩
    refine r0 _ _ a ns hS hlen fun H1 pl sc hp => ?_
    exact r1 _ _ a pl sc hp fun σ H => q H
end
end K01

set_option Elab.async false
set_option linter.all false
set_option maxRecDepth 100000
set_option maxHeartbeats 0
namespace K01
open PySem PySem.Spec PyProof.Rows L2
theorem law_of {P : Program} {w : World} {K : PySem.W.Frag} {h : Heap} {mg : Str → Option Value} {f : Addr} (X : K.In h) (G : h.Ns mainGlobals mg) (hfa : mg ("law" : Str) = some (.ref f)) (c : He.SaysD faL fnL K) (ct : (tpL.all fun p => He.tupB K p.1 p.2) = true) :
    ∃ fd : FuncData, (∀ (s : Shared) (v : Value), BindsTo s fd ⟨[v], []⟩ [("script", v)]) ∧ ∀ base : Heap, K.In base → base.Ns mainGlobals mg → FnOk P w K mg base CX0 17 f fd ["script"] (spLaw K) := by
  obtain ⟨T⟩ := txt_of X G c ct
  have e := hfa.symm.trans T.g_law
  cases e
  have b := FunD.bindsA (ps := ["script"]) T.F_law fun _ _ _ _ _ _ us hl => match us, hl with | [_], _ => rfl
  exact ⟨T.d_law, fun s v => b s [v] rfl, fun base _ _ => ok_law T⟩
end K01
open PySem PySem.W PySem.Calls PyProof.Rows in
theorem PySem.Challenge.cw_wholedown_k01_whole_kinds_holds : PySem.Challenge.rw_wholedown_k01_whole_kinds.Holds := by
  w_on; o_law
  refine HandSHeadRun.head_any (r := OpenLaw.row PySem.Challenge.rw_wholedown_k01_whole_kinds) (q := view (OpenLaw.row PySem.Challenge.rw_wholedown_k01_whole_kinds).prog [39]) (H := K01.hk) (ob := K01.ob) (M := 20000) (loose := K01.looseN) (d := HandSHeadRun.topDef (OpenLaw.row PySem.Challenge.rw_wholedown_k01_whole_kinds).prog 39) (kwd := []) K01.ob_eq
    (by kernel_rfl) (fun s => by kernel_rfl) K01.run (by kernel_rfl) (by kernel_rfl) (by kernel_rfl) (by rfl) (by first | assumption | decide +kernel) (by decide +kernel) ⟨rfl, rfl, rfl, rfl, rfl, by decide +kernel⟩ ?hw ?hc
  case hw => w_witness2
  case hc =>
    refine L2.walk_ofE (l := PySem.Challenge.rw_wholedown_k01_whole_kinds) (n := 63) (k := 17) (x := "script") (CX := L2.CX0) rfl (by decide) (by kernel_rfl) ⟨rfl, by decide, by decide⟩ ?F (fun _ _ _ _ z => z)
    intro w mg fa h Y G hmg0
    obtain ⟨K, KX, c, ct⟩ := Y
    have hmg : mg ("law" : PySem.Str) = some (.ref fa) := by
      have e : (HandSHeadRun.topDef (OpenLaw.row PySem.Challenge.rw_wholedown_k01_whole_kinds).prog 39).name = ("law" : PySem.Str) := by kernel_rfl
      rw [← e]
      exact hmg0
    obtain ⟨fd, hb, hF⟩ := K01.law_of (P := (PySem.Challenge.rw_wholedown_k01_whole_kinds).prog) (w := w) KX G hmg c ct
    exact ⟨K, fd, K01.spLaw K, KX, hb, fun H a ns hl _ hS => ⟨a, ns, rfl, hS, hl, fun _ => rfl⟩, hF⟩


