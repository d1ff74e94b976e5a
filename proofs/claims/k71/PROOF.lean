import PyProof.Rows.All
import Wide.All
import OpenK.AllK
import Wide.FinOn
import KE.KStateDown
import KE.KExcSuper
import KE.KSuper
import HandS.ForMost
import HandS.Defaults
import HandS.Nested
import HandS.ExcInit
import HandS.Head0
import HandS.Head1
import HandS.Head2
import HandS.HeadEnd
import HandS.HeadHook1
import HandS.HeadHook2
import HandS.HeadHook3
import HandS.ExcField
import HandS.ExcIs
import PySem.Challenge.RW_wholedown_k71_errors_of_the_lower_half
import HandS.HotCalls
import KE.GoesEnum
import HandS.Zip
import HandS.Walk
import HandS.ExcOwn
import HandS.RaiseMore
import HandS.TryOnly
import HandS.CallSlots
import HandS.DictComp
import HandS.TupAny
import HandS.IsInst
import HandS.Text
import HandS.Flow
import HandS.Star
import HandS.DictTup
import HandS.StrSplit
import HandS.FStr
import HandS.TupMul
set_option Elab.async false
set_option linter.all false
set_option maxRecDepth 100000
set_option maxHeartbeats 4000000
/-! super().__init__(e) in the __init__ of an own exception class whose nearest built-in base is ValueError -/
namespace KS
open PySem PySem.W PySem.Spec PyProof.Rows L2 NdefX
/-- what is written of the class at C, of the cell that its methods hold, and of the code object at cda -/
structure SupT (P : Program) (K : PySem.W.Frag) (C cc cda : Addr) : Prop where
  cell : ∃ cl cld csl, K.lookup cc = some ⟨cl, cld, .cell (some (.ref C)), csl⟩
  code : ∃ ccl cdd ccs vs file tf, K.lookup cda = some ⟨ccl, cdd, .fields vs, ccs⟩ ∧ vs[2]? = some (.str file tf) ∧ ((P.main.file : Str) == file) = true
  sub : mroIn K C (.ref C) = some true
  sup : ks_superIn K C C "__init__" = some (some (.builtin "ValueError.__init__"))
  isVE : subIn K (.ref C) (.type "ValueError") = some true
  opq : nsIn K cStatics "thirdparty.any" = some none
  top : (P.main.scope.names.lookup ("super" : Str)).isSome = false
  oex : OexC K C
abbrev supCall (e : Expr) (p0 p1 apos pos : Pos) : Expr := .Call (.Attribute (.Call (.Name "super" p0) [] [] p1) "__init__" apos) [e] [] pos
theorem oex_cls {K : PySem.W.Frag} {C : Addr} (T : OexC K C) : ∃ cd, clsIn K C = some cd ∧ ∃ oc od sl, K.lookup C = some ⟨oc, od, .cls cd, sl⟩ := by
  obtain ⟨nm, q, N, bs, bm, sn, sub, ab, col, dd, k0, k1, k2, k3, k5, hC, hbm⟩ := T.cls
  refine ⟨_, by unfold PySem.W.clsIn; rw [hC] <;> rfl, _, _, _, hC⟩
section
variable {X : Cx} {σ : L2.St} {H : Hp} {s : Shared} {a C cc cda f : Addr} {fd : FuncData} {ar : Arg} {body : List Stmt} {e : Expr} {te : TE} {p0 p1 apos pos : Pos} {pl : Sem Bool} {G : Hp → Prop}
theorem sup_eval (T : SupT X.prog X.K C cc cda) (I : Inv X [] σ H s) (hf : ∃ of, s.heap.get? f = some of ∧ of.data = .func fd) (hp : (fd.params.posonlyargs ++ fd.params.args).head? = some ar) (hN : X.N[0]? = some ar.arg)
    (hσ : σ[0]? = some (some (.ref a))) (ha : H a = some (exo a C none)) (hks : X.env.kindOf "super" = some .globalImplicit) (hkc : X.env.kindOf "__class__" = some .free) (hka : X.env.scope.names.lookup ar.arg = some .local) (hfu : X.env.func = some f) (hco : X.env.code = .ref cda)
    (hcl : X.env.cells.lookup ("__class__" : Str) = some cc) (hms : X.mg "super" = none) (he : PE X e te) (hq : te σ H fun _ H1 => H1 a = some (exo a C none) ∧ G H1)
    (ht : eval (supCall e p0 p1 apos pos) X.env = (do
      let ov ← attributeBase (.Call (.Name "super" p0) [] [] p1) "__init__" X.env (eval (.Call (.Name "super" p0) [] [] p1) X.env)
      standAt apos.atName
      let (f, first) ← holding [ov] (getMethod ov "__init__" pl)
      callWith pos f first (backTo pos (starEach [e] X.env)) []))
    (hse : starEach [e] X.env = (false, eval e X.env) :: starEach [] X.env) :
    _root_.PySem.wpAt (model X.prog X.w) X.A (.func body X.env) (eval (supCall e p0 p1 apos pos) X.env) (fun _ s' => ∃ H1, Inv X [] σ H1 s' ∧ G H1) X.xe s := by
  obtain ⟨cd, hcd, oc, od, sl, hC⟩ := oex_cls T.oex
  obtain ⟨t1, ho⟩ := exo_at I.hok ha
  obtain ⟨of, hof, hofd⟩ := hf
  obtain ⟨ccl, cdd, ccs, vs, file, tf, hcode, hvs, hfile⟩ := T.code
  obtain ⟨cl, cld, csl, hcell⟩ := T.cell
  refine ks_wpAt_MethodCall (pl := pl) ?_ ht
  refine ks_wpAt_super_base (env := X.env) hks hkc (by decide +kernel) hfu hof hofd hp hco (I.kIn _ _ hcode) rfl hvs hfile T.top ?_
  obtain ⟨mb, h1, h2⟩ := I.mod.blt
  refine ks_loadName_global I.ok.kind hks (Calls.loadGlobal_builtin (by rw [I.ok.glob]; exact I.mod.glob.keeps I.bk) hms (by rw [I.ok.blt]; exact h1.keeps I.bk) ((h2 _ (by decide +kernel)).trans (by decide +kernel : bootBuiltins "super" = some (.type "super"))) ⟨rfl, ?_⟩)
  refine wpAny_loadName_free I.ok.kind hkc hcl ⟨_, I.kIn _ _ hcell, rfl⟩ ?_ (by decide)
  obtain ⟨m, hn, hl⟩ := I.loc
  obtain ⟨u, ru, lk⟩ := hl 0 ar.arg (.ref a) hN hσ (.inl hka)
  obtain rfl : u = Value.ref a := ru
  have hm : m ar.arg = some (.ref a) := by
    rcases lk with ⟨_, hm⟩ | ⟨hk, _⟩
    · exact hm
    · have hk' : X.env.kindOf ar.arg = some NameKind.local := hka
      rw [hk'] at hk; rcases hk with hk | hk <;> cases hk
  refine wpAny_loadName_local I.ok.kind hka hn hm ?_
  have hDk : s.heap.get? C = some ⟨oc, od, .cls cd, sl⟩ := I.kIn _ _ hC
  obtain ⟨hh, g, d, tk, os⟩ := s
  refine ks_wpAny_isType_cls hDk rfl ⟨rfl, ?_⟩
  refine ks_wpAny_call_super hDk rfl ho rfl (fun c z => by cases z) (looks_mroIn I.kIn T.sub) (fun h' eso k => ?_)
  have I1 : Inv X [] σ H ⟨h', g, d, tk, os⟩ := I.kept (t' := tk) k
  have hxo := k _ _ ho
  have Io : InstAt h' a { cls := .ref C, dict := none, data := .fields #[.ref t1, .none, .none, .none, .bool false, .none] } C none := ⟨hxo, rfl, rfl, trivial⟩
  have hsup := T.sup
  unfold ks_superIn at hsup
  rw [hcd] at hsup
  refine kxs_getMethod kxs_ValueError eso (looks_opaque I1.kIn T.opq) (l₀ := cd.mro) (fun A Q E s k q => wpAny_bind ((looks_clsIn I1.kIn hcd) A _ E s k (wpAny_pure q))) rfl I1.kIn hsup (Io.type.andThen (looks_subIn I1.kIn T.isVE)) (ks_ne I1.kIn Io hcd) (by decide +kernel) ?_
  have hfresh : H h'.objs.size = none := I1.hok.fresh (Nat.le_refl _)
  have kk : ∀ b o, h'.get? b = some o → (h'.push (kxs_mw "ValueError.__init__" a)).get? b = some o := fun b o z => Heap.get?_push_of_some _ z
  have hu : (h'.push (kxs_mw "ValueError.__init__" a)).get? h'.objs.size = some (kxs_mw "ValueError.__init__" a) := Heap.get?_push_at rfl rfl
  have I2 : Inv X [] σ H ⟨h'.push (kxs_mw "ValueError.__init__" a), g, d, tk + 1, os⟩ := I1.kept (t' := tk + 1) kk
  have lF : ∀ b, (∃ o, h'.get? b = some o) → h'.objs.size ≠ b := fun b ⟨o, z⟩ q => by
    have := Heap.lt_size z
    rw [← q] at this
    exact absurd this (Nat.lt_irrefl _)
  have I3 : Inv X [(h'.objs.size, kxs_mw "ValueError.__init__" a)] σ H ⟨h'.push (kxs_mw "ValueError.__init__" a), g, d, tk + 1, os⟩ := I2.pins_of fun p hp => by
    rw [List.mem_singleton.mp hp]
    refine ⟨hu, hfresh, ?_, ?_, fun v z => by cases z⟩
    · obtain ⟨m', hn', _⟩ := I1.loc
      obtain ⟨oL, es, ep, e1, _⟩ := hn'
      exact lF _ ⟨oL, e1⟩
    · exact I1.nofs (Nat.le_refl _)
  show wpAny _ _ (callWith pos (.ref h'.objs.size) [] (backTo pos (starEach [e] X.env)) []) _ _ _
  rw [hse]
  refine kxs_callWith (i := "ValueError.__init__") (x := a) (u := h'.objs.size) rfl ?_
  refine Calls.evalArgs_plain ?_
  show wpAny _ _ (spliced ((false, eval e X.env) :: backTo pos (starEach [] X.env))) _ _ _
  refine Calls.spliced_cons (thn (he.run [(h'.objs.size, kxs_mw "ValueError.__init__" a)] _ σ H _ I3 hq) fun v s1 ⟨y, H1, J, r1, ha1, q1⟩ => ?_)
  have hpin := (J.pin (h'.objs.size, kxs_mw "ValueError.__init__" a) (List.mem_append_right _ (by simp))).1
  refine Calls.spliced_nil ⟨hpin, ?_⟩
  obtain ⟨nm, q, N, bs, bm, sn, sub, ab, col, dd, k0, k1, k2, k3, k5, hCx, hbm⟩ := T.oex.cls
  have hCk := J.kIn _ _ hCx
  obtain ⟨t2, ho2⟩ := exo_at J.hok ha1
  obtain ⟨h3, g3, d3, tk3, os3⟩ := s1
  have J0 : Inv X [] σ H1 ⟨h3, g3, d3, tk3, os3⟩ := J.pins_of fun p hp => by cases hp
  have fin : ∀ h4 : Heap, (∀ b o, b ≠ a → h3.get? b = some o → h4.get? b = some o) → h4.get? a = some (excObj C h3.objs.size none .none) → h4.get? h3.objs.size = some (excTup [v]) → ∃ H1, Inv X [] σ H1 ⟨h4, g3, d3, tk3, os3⟩ ∧ G H1 := fun h4 k4 e4 _ => by
    have J4 := J0.write (t' := tk3) (x := a) (e := a) (o := exo a C none) (by rw [ha1]; exact True.intro) (.inl rfl) k4 ⟨_, e4⟩ (exo_ok e4)
    have eu : upd H1 a (exo a C none) = H1 := by
      funext b
      by_cases hb : b = a
      · rw [hb, upd_same, ha1]
      · rw [upd_ne hb]
    rw [eu] at J4
    exact ⟨H1, J4, q1⟩
  refine wpAny_call (codeAny_of_tree ?_)
  show wpAny _ X.A.in1 (callAny (.ref h'.objs.size) ⟨[v], []⟩) _ _ _
  simp only [callAny]
  refine wpAny_bind (wpAny_load hpin ?_)
  simp only [kxs_mw, show (Value.type "method-wrapper" == Value.type "method" || Value.type "method-wrapper" == Value.type "builtin_function_or_method" || Value.type "method-wrapper" == Value.type "method-wrapper") = true by decide, if_true]
  refine KFB.if_so (by decide) ?_
  refine wpAny_bind (check_bound_init PySem.F.excBase_ValueError.toExcCallFacts hCk ho2 rfl ?_)
  refine wpAny_bind (wpAny_pure (wpAny_pure ?_))
  refine ⟨plainId_quiet PySem.F.excBase_ValueError.init.plain _, codeAny_builtin PySem.F.excBase_ValueError.initEntry ?_⟩
  exact exc_init_tree (cls := .ref C) (t0 := t2) (dv := none) (c2 := .none) (c3 := .none) (b4 := .bool false) ho2 (by show 1 ≤ sizeLine; decide) fin
end
abbrev nf (name qual : Str) (params : Arguments) (body : List Stmt) (scope : Scope) (cc cda : Addr) : NF := ⟨name, qual, params, body, scope, [("__class__", cc)], cda⟩
section
variable {P : Program} {w : World} {K : PySem.W.Frag} {mg : Str → Option Value} {base : Heap} {k : Nat} {f C cc cda : Addr} {name qual : Str} {params : Arguments} {rest : List Stmt} {scope : Scope} {doc pm ct oc : Value} {an od : Option Addr}
  {osl : Array (Option Value)} {N ps : List Str} {sp : Sp} {e : Expr} {p0 p1 apos pos pos2 : Pos} {pl : Sem Bool} {ar : Arg}
theorem cells_at {s : Shared} {H : Hp} {A : Around} {outer : List Env} (T : SupT P K C cc cda) (e0 : Env0 P w K mg base A outer s H) : CellsAt [(("__class__" : Str), cc)] ["__class__"] [some (.ref C)] s.heap H := by
  obtain ⟨cl, cld, csl, hcell⟩ := T.cell
  have hb := e0.mod.kin _ _ hcell
  obtain ⟨hs, hn⟩ := e0.bs _ _ hb
  have key : ∀ (y : Str) (c : Addr), List.lookup y [(("__class__" : Str), cc)] = some c → y = "__class__" ∧ c = cc := fun y c z => by
    simp only [List.lookup] at z
    split at z
    · rename_i h1
      injection z with z
      exact ⟨by simpa using h1, z.symm⟩
    · cases z
  refine ⟨rfl, fun y c z => ?_, fun x y c z1 z2 => (key x c z1).1.trans (key y c z2).1.symm, fun i y hi => ?_⟩
  · obtain ⟨_, rfl⟩ := key y c z
    exact ⟨hn, _, ⟨_, hs, rfl⟩⟩
  · match i, hi with
    | 0, hi =>
      cases hi
      refine ⟨cc, by simp [List.lookup], fun v hv => ?_⟩
      cases hv
      exact ⟨_, rfl, ⟨_, hs, rfl⟩⟩
theorem fn_sup (lk : K.lookup f = some ⟨oc, od, .func (ksFn name qual params (.Expr (supCall e p0 p1 apos pos) pos2 :: rest) scope .none .none doc pm an (.ref cda) ct cc), osl⟩) (hcd : codeIn K (.ref cda) qual = true) (T : SupT P K C cc cda) (S : NScope N ps ["__class__"] scope)
    (hp : (params.posonlyargs ++ params.args).head? = some ar) (hN : N[0]? = some ar.arg) (hpa : ar.arg ∈ ps) (hms : mg "super" = none) (hks : scope.names.lookup ("super" : Str) = some .globalImplicit)
    (len : ∀ vs H Q E, sp vs H Q E → vs.length = ps.length)
    (hi : ∀ L, interactive (envF (nf name qual params (.Expr (supCall e p0 p1 apos pos) pos2 :: rest) scope cc cda) f L) = false) (hsw : ∀ L, swapsWith (supCall e p0 p1 apos pos) none pos2.line (envF (nf name qual params (.Expr (supCall e p0 p1 apos pos) pos2 :: rest) scope cc cda) f L) = pure false)
    (ht : ∀ L, eval (supCall e p0 p1 apos pos) (envF (nf name qual params (.Expr (supCall e p0 p1 apos pos) pos2 :: rest) scope cc cda) f L) = (do
      let ov ← attributeBase (.Call (.Name "super" p0) [] [] p1) "__init__" (envF (nf name qual params (.Expr (supCall e p0 p1 apos pos) pos2 :: rest) scope cc cda) f L) (eval (.Call (.Name "super" p0) [] [] p1) (envF (nf name qual params (.Expr (supCall e p0 p1 apos pos) pos2 :: rest) scope cc cda) f L))
      standAt apos.atName
      let (fx, first) ← holding [ov] (getMethod ov "__init__" pl)
      callWith pos fx first (backTo pos (starEach [e] (envF (nf name qual params (.Expr (supCall e p0 p1 apos pos) pos2 :: rest) scope cc cda) f L))) []))
    (hse : ∀ L, starEach [e] (envF (nf name qual params (.Expr (supCall e p0 p1 apos pos) pos2 :: rest) scope cc cda) f L) = (false, eval e (envF (nf name qual params (.Expr (supCall e p0 p1 apos pos) pos2 :: rest) scope cc cda) f L)) :: starEach [] (envF (nf name qual params (.Expr (supCall e p0 p1 apos pos) pos2 :: rest) scope cc cda) f L))
    (hbody : ∀ (A : Around) (outer : List Env) (s : Shared) (H : Hp) (vs : List V) (Q : VK) (E : XK), Room k (A.deeper (envF (nf name qual params (.Expr (supCall e p0 p1 apos pos) pos2 :: rest) scope cc cda) f s.heap.objs.size)) → sp vs H Q E →
      ∃ (te : TE) (tr : TS) (a : Addr), vs[0]? = some (.ref a) ∧ H a = some (exo a C none) ∧ PE (ncx CX0 P w K mg base N (nf name qual params (.Expr (supCall e p0 p1 apos pos) pos2 :: rest) scope cc cda) f A outer s H E) e te ∧
        PSs (ncx CX0 P w K mg base N (nf name qual params (.Expr (supCall e p0 p1 apos pos) pos2 :: rest) scope cc cda) f A outer s H E) rest tr ∧
        te (startF N vs [some (.ref C)]) H fun _ H1 => H1 a = some (exo a C none) ∧ tr { nx := fun _ H' => Q .non H', rt := Q } (startF N vs [some (.ref C)]) H1) :
    FnOk P w K mg base CX0 (k + 1) f (ksFn name qual params (.Expr (supCall e p0 p1 apos pos) pos2 :: rest) scope .none .none doc pm an (.ref cda) ct cc) ps sp := by
  refine ⟨len, fun A outer s H args us vs Q E hr e0 hb r hsp => ?_⟩
  have hl := len _ _ _ _ hsp
  have KX : K.In s.heap := e0.mod.kin.keeps fun b o e => (e0.bs b o e).1
  have lim : s.heap.NoLimit := e0.mod.nolimit.keeps fun b o e => (e0.bs b o e).1
  have CA := cells_at T e0
  refine codeAny_call_function hr.depth (KX _ _ lk) rfl S.co S.gen rfl (codeRec_of KX hcd) (hb _ _ _ _ ?_)
  refine wpAny_newFunctionEnv S.nocell (fun ⟨n, _⟩ hy => S.par n (List.of_mem_zip hy).1) (fun h₁ hns hsb => ⟨lim.fresh _ hsb, ?_⟩) S.kind
  show codeAny _ _ (.func (.Expr (supCall e p0 p1 apos pos) pos2 :: rest) (envF (nf name qual params (.Expr (supCall e p0 p1 apos pos) pos2 :: rest) scope cc cda) f s.heap.objs.size)) _ _
  have kp : ∀ b o, s.heap.get? b = some o → h₁.get? b = some o := fun b o e => hsb.extBut b o (Nat.ne_of_lt (Heap.lt_size e)) (Heap.get?_push_of_some _ e)
  obtain ⟨te, tr, a, hva, haa, hpe, hps, hq⟩ := hbody A outer s H vs Q E (hr.deeper _) hsp
  have I : Inv (ncx CX0 P w K mg base N (nf name qual params (.Expr (supCall e p0 p1 apos pos) pos2 :: rest) scope cc cda) f A outer s H E) [] (startF N vs [some (.ref C)]) H { s with heap := h₁, toks := s.toks + (ps.zip us).length } := inv_startN S hr.hd e0 hl r CA hns kp
  have fin : ∀ {s' : Shared} {σ' : L2.St} {H' : Hp} {v : V} {u : Value}, Inv (ncx CX0 P w K mg base N (nf name qual params (.Expr (supCall e p0 p1 apos pos) pos2 :: rest) scope cc cda) f A outer s H E) [] σ' H' s' → RelV v u → Q v H' → CE outer P w H s Q u s' :=
    fun {s' σ' H' v u} J rv q => ⟨v, H', J.os, J.bare, J.base, J.hok, rv, q⟩
  have hσ0 : (startF N vs [some (V.ref C)])[0]? = some (some (.ref a)) := by
    unfold startF
    cases vs with
    | nil => cases hva
    | cons x xs => cases hva; rfl
  refine ks_codeAny_funcAt (ks_wpAt_execs_cons (ks_wpAt_Expr_any (ks_wpAt_mono (sup_eval (pl := pl) T I ⟨_, kp _ _ (KX _ _ lk), rfl⟩ hp hN hσ0 haa hks (S.frk _ (by simp)) (S.par _ hpa) rfl rfl (by show List.lookup ("__class__" : Str) [(("__class__" : Str), cc)] = some cc; simp [List.lookup]) hms hpe hq (ht _) (hse _)) (fun _ s' hs => ?_) fun _ _ x => x) (hi _) (hsw _)))
  obtain ⟨H1, J, hq1⟩ := hs
  refine wpAt_of_wpAny (wpAny_mono (hps.run [] _ _ H1 _ J hq1) (fun fl s' hs => ?_) fun e s' hs => hs)
  cases fl with
  | ret u =>
    obtain ⟨v, σ', H', J, rv, q⟩ := hs
    exact fin J rv q
  | next =>
    obtain ⟨σ', H', J, q⟩ := hs
    exact fin (v := V.non) (u := Value.none) J rfl q
  | brk =>
    obtain ⟨_, _, _, q⟩ := hs
    exact False.elim q
  | cont =>
    obtain ⟨_, _, _, q⟩ := hs
    exact False.elim q
end
end KS

set_option Elab.async false
set_option linter.all false
set_option maxRecDepth 100000
set_option maxHeartbeats 0
namespace K71
open PySem PySem.Spec PyProof.Rows L2
def top (i : Nat) : Stmt := PySem.Challenge.pw_wholedown_k71_errors_of_the_lower_half.main.body.getD i (.Pass ⟨0, 0, 0, 0⟩)
abbrev s_is_integer : Stmt := top 3
theorem sc_is_integer : FnScope ["value"] ["value"] (defScope s_is_integer) := ⟨rfl, rfl, rfl, by decide +kernel, rfl, by decide +kernel, by decide +kernel⟩
abbrev s_is_number : Stmt := top 4
theorem sc_is_number : FnScope ["value", "low", "high"] ["value", "low", "high"] (defScope s_is_number) := ⟨rfl, rfl, rfl, by decide +kernel, rfl, by decide +kernel, by decide +kernel⟩
abbrev s_is_tuple : Stmt := top 5
theorem sc_is_tuple : FnScope ["value", "size"] ["value", "size"] (defScope s_is_tuple) := ⟨rfl, rfl, rfl, by decide +kernel, rfl, by decide +kernel, by decide +kernel⟩
abbrev s_is_word_name : Stmt := top 9
theorem sc_is_word_name : FnScope ["value", "letter"] ["value"] (defScope s_is_word_name) := ⟨rfl, rfl, rfl, by decide +kernel, rfl, by decide +kernel, by decide +kernel⟩
abbrev s_names_in : Stmt := top 24
theorem sc_names_in : FnScope ["marks", "item", "found", "mark", "one"] ["marks", "item"] (defScope s_names_in) := ⟨rfl, rfl, rfl, by decide +kernel, rfl, by decide +kernel, by decide +kernel⟩
abbrev s_names_of_op : Stmt := top 25
theorem sc_names_of_op : FnScope ["op"] ["op"] (defScope s_names_of_op) := ⟨rfl, rfl, rfl, by decide +kernel, rfl, by decide +kernel, by decide +kernel⟩
abbrev s_table_of : Stmt := top 43
theorem sc_table_of : FnScope ["units"] ["units"] (defScope s_table_of) := ⟨rfl, rfl, rfl, by decide +kernel, rfl, by decide +kernel, by decide +kernel⟩
abbrev s_BadImage___init__ : Stmt := inClass (top 55) 0
abbrev s_Refused___init__ : Stmt := inClass (top 56) 0
abbrev s_BadLine___init__ : Stmt := inClass (top 57) 0
abbrev s_asked_of : Stmt := top 59
theorem sc_asked_of : FnScope ["instruction"] ["instruction"] (defScope s_asked_of) := ⟨rfl, rfl, rfl, by decide +kernel, rfl, by decide +kernel, by decide +kernel⟩
abbrev s_Linker___init__ : Stmt := inClass (top 60) 0
theorem sc_Linker___init__ : FnScope ["self", "objects", "one"] ["self", "objects"] (defScope s_Linker___init__) := ⟨rfl, rfl, rfl, by decide +kernel, rfl, by decide +kernel, by decide +kernel⟩
abbrev s_Linker_function : Stmt := inClass (top 60) 1
theorem sc_Linker_function : FnScope ["self", "unit", "name", "function"] ["self", "unit", "name"] (defScope s_Linker_function) := ⟨rfl, rfl, rfl, by decide +kernel, rfl, by decide +kernel, by decide +kernel⟩
abbrev s_Linker_number : Stmt := inClass (top 60) 2
theorem sc_Linker_number : FnScope ["self", "unit", "name"] ["self", "unit", "name"] (defScope s_Linker_number) := ⟨rfl, rfl, rfl, by decide +kernel, rfl, by decide +kernel, by decide +kernel⟩
abbrev s_Linker_linked : Stmt := inClass (top 60) 3
theorem sc_Linker_linked : FnScope ["self", "instruction", "asked", "function", "number"] ["self", "instruction"] (defScope s_Linker_linked) := ⟨rfl, rfl, rfl, by decide +kernel, rfl, by decide +kernel, by decide +kernel⟩
abbrev s_Linker_run : Stmt := inClass (top 60) 4
theorem sc_Linker_run : FnScope ["self", "entry", "found", "unit", "name", "own", "code", "one"] ["self", "entry"] (defScope s_Linker_run) := ⟨rfl, rfl, rfl, by decide +kernel, rfl, by decide +kernel, by decide +kernel⟩
abbrev s_linked : Stmt := top 61
theorem sc_linked : FnScope ["objects", "entry", "linker", "functions"] ["objects", "entry"] (defScope s_linked) := ⟨rfl, rfl, rfl, by decide +kernel, rfl, by decide +kernel, by decide +kernel⟩
abbrev s_require : Stmt := top 68
theorem sc_require : FnScope ["condition"] ["condition"] (defScope s_require) := ⟨rfl, rfl, rfl, by decide +kernel, rfl, by decide +kernel, by decide +kernel⟩
abbrev s_folded : Stmt := top 74
theorem sc_folded : FnScope ["function", "block", "at", "place", "name", "op", "words", "word", "one"] ["function", "block", "at"] (defScope s_folded) := ⟨rfl, rfl, rfl, by decide +kernel, rfl, by decide +kernel, by decide +kernel⟩
abbrev s_is_change : Stmt := top 95
theorem sc_is_change : FnScope ["value", "name"] ["value"] (defScope s_is_change) := ⟨rfl, rfl, rfl, by decide +kernel, rfl, by decide +kernel, by decide +kernel⟩
abbrev s_changed_function : Stmt := top 96
theorem sc_changed_function : FnScope ["program", "change", "function", "kind", "_", "block", "at", "more"] ["program", "change", "function"] (defScope s_changed_function) := ⟨rfl, rfl, rfl, by decide +kernel, rfl, by decide +kernel, by decide +kernel⟩
abbrev s_changed : Stmt := top 98
theorem sc_changed : FnScope ["program", "change", "function", "found"] ["program", "change"] (defScope s_changed) := ⟨rfl, rfl, rfl, by decide +kernel, rfl, by decide +kernel, by decide +kernel⟩
abbrev s_with_function : Stmt := top 99
theorem sc_with_function : FnScope ["program", "unit", "function", "units", "name", "imports", "functions", "own"] ["program", "unit", "function"] (defScope s_with_function) := ⟨rfl, rfl, rfl, by decide +kernel, rfl, by decide +kernel, by decide +kernel⟩
abbrev s_Reader___init__ : Stmt := inClass (top 107) 0
theorem sc_Reader___init__ : FnScope ["self", "row"] ["self", "row"] (defScope s_Reader___init__) := ⟨rfl, rfl, rfl, by decide +kernel, rfl, by decide +kernel, by decide +kernel⟩
abbrev s_Reader_byte : Stmt := inClass (top 107) 1
theorem sc_Reader_byte : FnScope ["self"] ["self"] (defScope s_Reader_byte) := ⟨rfl, rfl, rfl, by decide +kernel, rfl, by decide +kernel, by decide +kernel⟩
abbrev s_Reader_number : Stmt := inClass (top 107) 2
theorem sc_Reader_number : FnScope ["self", "first", "found", "unit", "byte"] ["self"] (defScope s_Reader_number) := ⟨rfl, rfl, rfl, by decide +kernel, rfl, by decide +kernel, by decide +kernel⟩
abbrev s_Reader_letter : Stmt := inClass (top 107) 3
theorem sc_Reader_letter : FnScope ["self", "number"] ["self"] (defScope s_Reader_letter) := ⟨rfl, rfl, rfl, by decide +kernel, rfl, by decide +kernel, by decide +kernel⟩
abbrev s_Reader_function : Stmt := inClass (top 107) 6
theorem sc_Reader_function : FnScope ["self", "_", "name", "params", "caught", "shelves", "code", "places"] ["self"] (defScope s_Reader_function) := ⟨rfl, rfl, rfl, by decide +kernel, rfl, by decide +kernel, by decide +kernel⟩
abbrev s_image_from : Stmt := top 108
theorem sc_image_from : FnScope ["row", "at", "byte", "reader", "wanted", "boxes", "functions", "_"] ["row"] (defScope s_image_from) := ⟨rfl, rfl, rfl, by decide +kernel, rfl, by decide +kernel, by decide +kernel⟩
abbrev s_number_from : Stmt := top 111
theorem sc_number_from : FnScope ["text", "line", "digit"] ["text", "line"] (defScope s_number_from) := ⟨rfl, rfl, rfl, by decide +kernel, rfl, by decide +kernel, by decide +kernel⟩
abbrev s_Lines___init__ : Stmt := inClass (top 114) 0
theorem sc_Lines___init__ : FnScope ["self", "lines"] ["self", "lines"] (defScope s_Lines___init__) := ⟨rfl, rfl, rfl, by decide +kernel, rfl, by decide +kernel, by decide +kernel⟩
abbrev s_Lines_words : Stmt := inClass (top 114) 1
theorem sc_Lines_words : FnScope ["self", "first", "size", "words"] ["self", "first", "size"] (defScope s_Lines_words) := ⟨rfl, rfl, rfl, by decide +kernel, rfl, by decide +kernel, by decide +kernel⟩
abbrev s_Lines_function : Stmt := inClass (top 114) 2
theorem sc_Lines_function : FnScope ["self", "words", "line", "params", "caught", "shelves", "size", "code", "places", "number", "own", "text"] ["self"] (defScope s_Lines_function) := ⟨rfl, rfl, rfl, by decide +kernel, rfl, by decide +kernel, by decide +kernel⟩
abbrev s_image_from_lines : Stmt := top 115
theorem sc_image_from_lines : FnScope ["lines", "reader", "words", "boxes", "many", "functions", "_"] ["lines"] (defScope s_image_from_lines) := ⟨rfl, rfl, rfl, by decide +kernel, rfl, by decide +kernel, by decide +kernel⟩
abbrev s_Judge___init__ : Stmt := inClass (top 123) 0
theorem sc_Judge___init__ : FnScope ["self", "image", "number"] ["self", "image", "number"] (defScope s_Judge___init__) := ⟨rfl, rfl, rfl, by decide +kernel, rfl, by decide +kernel, by decide +kernel⟩
abbrev s_Judge_refuse : Stmt := inClass (top 123) 1
theorem sc_Judge_refuse : FnScope ["self", "kind", "at"] ["self", "kind", "at"] (defScope s_Judge_refuse) := ⟨rfl, rfl, rfl, by decide +kernel, rfl, by decide +kernel, by decide +kernel⟩
abbrev s_Judge_pieces : Stmt := inClass (top 123) 2
theorem sc_Judge_pieces : FnScope ["self", "at", "instruction", "mark", "piece", "kind"] ["self", "at"] (defScope s_Judge_pieces) := ⟨rfl, rfl, rfl, by decide +kernel, rfl, by decide +kernel, by decide +kernel⟩
abbrev s_Judge_shapes : Stmt := inClass (top 123) 3
theorem sc_Judge_shapes : FnScope ["self", "at", "instruction", "number", "_", "params", "caught", "wanted"] ["self", "at"] (defScope s_Judge_shapes) := ⟨rfl, rfl, rfl, by decide +kernel, rfl, by decide +kernel, by decide +kernel⟩
abbrev s_Judge_come : Stmt := inClass (top 123) 4
theorem sc_Judge_come : FnScope ["self", "at", "state", "old", "boxes", "shelves", "handler", "box", "shelf"] ["self", "at", "state"] (defScope s_Judge_come) := ⟨rfl, rfl, rfl, by decide +kernel, rfl, by decide +kernel, by decide +kernel⟩
abbrev s_Judge_need : Stmt := inClass (top 123) 5
theorem sc_Judge_need : FnScope ["self", "at", "boxes", "state", "box"] ["self", "at", "boxes", "state"] (defScope s_Judge_need) := ⟨rfl, rfl, rfl, by decide +kernel, rfl, by decide +kernel, by decide +kernel⟩
abbrev s_Judge_used : Stmt := inClass (top 123) 6
theorem sc_Judge_used : FnScope ["self", "instruction", "marks", "boxes", "mark", "piece"] ["self", "instruction"] (defScope s_Judge_used) := ⟨rfl, rfl, rfl, by decide +kernel, rfl, by decide +kernel, by decide +kernel⟩
abbrev s_Judge_behind : Stmt := inClass (top 123) 7
theorem sc_Judge_behind : FnScope ["self", "at", "state", "instruction", "boxes", "shelves", "many", "is_answered", "handler", "kind", "taken"] ["self", "at", "state"] (defScope s_Judge_behind) := ⟨rfl, rfl, rfl, by decide +kernel, rfl, by decide +kernel, by decide +kernel⟩
abbrev s_Judge_taken : Stmt := inClass (top 123) 8
theorem sc_Judge_taken : FnScope ["self", "instruction"] ["self", "instruction"] (defScope s_Judge_taken) := ⟨rfl, rfl, rfl, by decide +kernel, rfl, by decide +kernel, by decide +kernel⟩
abbrev s_Judge_goals : Stmt := inClass (top 123) 9
theorem sc_Judge_goals : FnScope ["self", "at", "state", "instruction", "kind", "behind"] ["self", "at", "state"] (defScope s_Judge_goals) := ⟨rfl, rfl, rfl, by decide +kernel, rfl, by decide +kernel, by decide +kernel⟩
abbrev s_Judge_run : Stmt := inClass (top 123) 10
theorem sc_Judge_run : FnScope ["self", "at"] ["self"] (defScope s_Judge_run) := ⟨rfl, rfl, rfl, by decide +kernel, rfl, by decide +kernel, by decide +kernel⟩
abbrev s_judge : Stmt := top 124
theorem sc_judge : FnScope ["image", "number"] ["image"] (defScope s_judge) := ⟨rfl, rfl, rfl, by decide +kernel, rfl, by decide +kernel, by decide +kernel⟩
abbrev s_law_cell : Stmt := top 126
theorem sc_law_cell : FnScope ["script", "k"] ["script", "k"] (defScope s_law_cell) := ⟨rfl, rfl, rfl, by decide +kernel, rfl, by decide +kernel, by decide +kernel⟩
abbrev s_law_numbers : Stmt := top 127
theorem sc_law_numbers : FnScope ["cell", "many", "rows", "left", "k", "mixed"] ["cell", "many"] (defScope s_law_numbers) := ⟨rfl, rfl, rfl, by decide +kernel, rfl, by decide +kernel, by decide +kernel⟩
abbrev s_law_pool : Stmt := top 128
theorem sc_law_pool : FnScope ["script", "rows", "k"] ["script"] (defScope s_law_pool) := ⟨rfl, rfl, rfl, by decide +kernel, rfl, by decide +kernel, by decide +kernel⟩
abbrev s_law_draw : Stmt := top 129
theorem sc_law_draw : FnScope ["pool", "many", "at", "turn"] ["pool", "many"] (defScope s_law_draw) := ⟨rfl, rfl, rfl, by decide +kernel, rfl, by decide +kernel, by decide +kernel⟩
abbrev s_law_kind : Stmt := top 130
theorem sc_law_kind : FnScope ["x"] ["x"] (defScope s_law_kind) := ⟨rfl, rfl, rfl, by decide +kernel, rfl, by decide +kernel, by decide +kernel⟩
abbrev s_law_equal : Stmt := top 131
theorem sc_law_equal : FnScope ["x", "due", "k"] ["x", "due"] (defScope s_law_equal) := ⟨rfl, rfl, rfl, by decide +kernel, rfl, by decide +kernel, by decide +kernel⟩
abbrev s_law_kinds_of : Stmt := top 132
theorem sc_law_kinds_of : FnScope ["e", "found"] ["e"] (defScope s_law_kinds_of) := ⟨rfl, rfl, rfl, by decide +kernel, rfl, by decide +kernel, by decide +kernel⟩
abbrev s_law_do : Stmt := top 133
theorem sc_law_do : FnScope ["way", "number", "plain", "other", "program", "e"] ["way", "number"] (defScope s_law_do) := ⟨rfl, rfl, rfl, by decide +kernel, rfl, by decide +kernel, by decide +kernel⟩
abbrev s_law : Stmt := top 134
theorem sc_law : FnScope ["script", "pool", "number", "due", "way", "seen", "e"] ["script"] (defScope s_law) := ⟨rfl, rfl, rfl, by decide +kernel, rfl, by decide +kernel, by decide +kernel⟩
abbrev FnP (K : PySem.W.Frag) (x q : Str) (st : Stmt) (f : Addr) (fd : FuncData) : Prop := FunD K x q (defArgs st) (defBody st) (defScope st) [] [] f fd
structure Txt (K : PySem.W.Frag) (mg : Str → Option Value) where
  d_is_integer : FuncData
  d_is_number : FuncData
  d_is_tuple : FuncData
  d_is_word_name : FuncData
  d_names_in : FuncData
  d_names_of_op : FuncData
  d_table_of : FuncData
  d_asked_of : FuncData
  d_Linker___init__ : FuncData
  d_Linker_function : FuncData
  d_Linker_number : FuncData
  d_Linker_linked : FuncData
  d_Linker_run : FuncData
  d_linked : FuncData
  d_require : FuncData
  d_folded : FuncData
  d_is_change : FuncData
  d_changed_function : FuncData
  d_changed : FuncData
  d_with_function : FuncData
  d_Reader___init__ : FuncData
  d_Reader_byte : FuncData
  d_Reader_number : FuncData
  d_Reader_letter : FuncData
  d_Reader_function : FuncData
  d_image_from : FuncData
  d_number_from : FuncData
  d_Lines___init__ : FuncData
  d_Lines_words : FuncData
  d_Lines_function : FuncData
  d_image_from_lines : FuncData
  d_Judge___init__ : FuncData
  d_Judge_refuse : FuncData
  d_Judge_pieces : FuncData
  d_Judge_shapes : FuncData
  d_Judge_come : FuncData
  d_Judge_need : FuncData
  d_Judge_used : FuncData
  d_Judge_behind : FuncData
  d_Judge_taken : FuncData
  d_Judge_goals : FuncData
  d_Judge_run : FuncData
  d_judge : FuncData
  d__law_cell : FuncData
  d__law_numbers : FuncData
  d__law_pool : FuncData
  d__law_draw : FuncData
  d__law_kind : FuncData
  d__law_equal : FuncData
  d__law_kinds_of : FuncData
  d__law_do : FuncData
  d_law : FuncData
  t_LETTERS_shapes : Tok
  t_LONGEST_NAME : Tok
  t_MOST_WORD : Tok
  t_MOST_NAME : Tok
  t_MOST_PLACE : Tok
  t_MOST_BLOCKS : Tok
  t_MOST_LETS : Tok
  t_MOST_ARGS : Tok
  t_MOST_FUNCTIONS : Tok
  t_MOST_UNITS : Tok
  t_BASE : Tok
  t_MODULUS : Tok
  t_MOST : Tok
  t_LETTERS_image_bytes : Tok
  t_DIGITS : Tok
  t_FEWEST_BOXES : Tok
  t_MOST_BOXES : Tok
  g_is_integer : mg "is_integer" = some (.ref (He.ga K "is_integer"))
  g_is_number : mg "is_number" = some (.ref (He.ga K "is_number"))
  g_is_tuple : mg "is_tuple" = some (.ref (He.ga K "is_tuple"))
  g_is_word_name : mg "is_word_name" = some (.ref (He.ga K "is_word_name"))
  g_names_in : mg "names_in" = some (.ref (He.ga K "names_in"))
  g_names_of_op : mg "names_of_op" = some (.ref (He.ga K "names_of_op"))
  g_table_of : mg "table_of" = some (.ref (He.ga K "table_of"))
  g_asked_of : mg "asked_of" = some (.ref (He.ga K "asked_of"))
  g_linked : mg "linked" = some (.ref (He.ga K "linked"))
  g_require : mg "require" = some (.ref (He.ga K "require"))
  g_folded : mg "folded" = some (.ref (He.ga K "folded"))
  g_is_change : mg "is_change" = some (.ref (He.ga K "is_change"))
  g_changed_function : mg "changed_function" = some (.ref (He.ga K "changed_function"))
  g_changed : mg "changed" = some (.ref (He.ga K "changed"))
  g_with_function : mg "with_function" = some (.ref (He.ga K "with_function"))
  g_image_from : mg "image_from" = some (.ref (He.ga K "image_from"))
  g_number_from : mg "number_from" = some (.ref (He.ga K "number_from"))
  g_image_from_lines : mg "image_from_lines" = some (.ref (He.ga K "image_from_lines"))
  g_judge : mg "judge" = some (.ref (He.ga K "judge"))
  g__law_cell : mg "_law_cell" = some (.ref (He.ga K "_law_cell"))
  g__law_numbers : mg "_law_numbers" = some (.ref (He.ga K "_law_numbers"))
  g__law_pool : mg "_law_pool" = some (.ref (He.ga K "_law_pool"))
  g__law_draw : mg "_law_draw" = some (.ref (He.ga K "_law_draw"))
  g__law_kind : mg "_law_kind" = some (.ref (He.ga K "_law_kind"))
  g__law_equal : mg "_law_equal" = some (.ref (He.ga K "_law_equal"))
  g__law_kinds_of : mg "_law_kinds_of" = some (.ref (He.ga K "_law_kinds_of"))
  g__law_do : mg "_law_do" = some (.ref (He.ga K "_law_do"))
  g_law : mg "law" = some (.ref (He.ga K "law"))
  g_LowError : mg "LowError" = some (.ref (He.ga K "LowError"))
  e_LowError : PySem.W.excIn K (He.ga K "LowError") He.veBase "ValueError.__new__" = true ∧ PySem.W.keepIn K (.ref (He.ga K "LowError")) = true ∧ PySem.W.subIn K (.ref (He.ga K "LowError")) (.type "BaseException") = some true ∧ PySem.W.typeIn K (.ref (He.ga K "LowError")) = some (.type "type")
  x_LowError : PySem.W.exmOne K (.ref (He.ga K "LowError")) (.ref (He.ga K "LowError")) = some true
  g_NotTaken : mg "NotTaken" = some (.ref (He.ga K "NotTaken"))
  e_NotTaken : PySem.W.excIn K (He.ga K "NotTaken") He.veBase "ValueError.__new__" = true ∧ PySem.W.keepIn K (.ref (He.ga K "NotTaken")) = true ∧ PySem.W.subIn K (.ref (He.ga K "NotTaken")) (.type "BaseException") = some true ∧ PySem.W.typeIn K (.ref (He.ga K "NotTaken")) = some (.type "type")
  x_NotTaken : PySem.W.exmOne K (.ref (He.ga K "NotTaken")) (.ref (He.ga K "NotTaken")) = some true
  g_NoUnit : mg "NoUnit" = some (.ref (He.ga K "NoUnit"))
  e_NoUnit : PySem.W.excIn K (He.ga K "NoUnit") He.veBase "ValueError.__new__" = true ∧ PySem.W.keepIn K (.ref (He.ga K "NoUnit")) = true ∧ PySem.W.subIn K (.ref (He.ga K "NoUnit")) (.type "BaseException") = some true ∧ PySem.W.typeIn K (.ref (He.ga K "NoUnit")) = some (.type "type")
  x_NoUnit : PySem.W.exmOne K (.ref (He.ga K "NoUnit")) (.ref (He.ga K "NoUnit")) = some true
  g_NoFunction : mg "NoFunction" = some (.ref (He.ga K "NoFunction"))
  e_NoFunction : PySem.W.excIn K (He.ga K "NoFunction") He.veBase "ValueError.__new__" = true ∧ PySem.W.keepIn K (.ref (He.ga K "NoFunction")) = true ∧ PySem.W.subIn K (.ref (He.ga K "NoFunction")) (.type "BaseException") = some true ∧ PySem.W.typeIn K (.ref (He.ga K "NoFunction")) = some (.type "type")
  x_NoFunction : PySem.W.exmOne K (.ref (He.ga K "NoFunction")) (.ref (He.ga K "NoFunction")) = some true
  g_Twice : mg "Twice" = some (.ref (He.ga K "Twice"))
  e_Twice : PySem.W.excIn K (He.ga K "Twice") He.veBase "ValueError.__new__" = true ∧ PySem.W.keepIn K (.ref (He.ga K "Twice")) = true ∧ PySem.W.subIn K (.ref (He.ga K "Twice")) (.type "BaseException") = some true ∧ PySem.W.typeIn K (.ref (He.ga K "Twice")) = some (.type "type")
  x_Twice : PySem.W.exmOne K (.ref (He.ga K "Twice")) (.ref (He.ga K "Twice")) = some true
  g_OtherShape : mg "OtherShape" = some (.ref (He.ga K "OtherShape"))
  e_OtherShape : PySem.W.excIn K (He.ga K "OtherShape") He.veBase "ValueError.__new__" = true ∧ PySem.W.keepIn K (.ref (He.ga K "OtherShape")) = true ∧ PySem.W.subIn K (.ref (He.ga K "OtherShape")) (.type "BaseException") = some true ∧ PySem.W.typeIn K (.ref (He.ga K "OtherShape")) = some (.type "type")
  x_OtherShape : PySem.W.exmOne K (.ref (He.ga K "OtherShape")) (.ref (He.ga K "OtherShape")) = some true
  g_BadImage : mg "BadImage" = some (.ref (He.ga K "BadImage"))
  g_Refused : mg "Refused" = some (.ref (He.ga K "Refused"))
  g_BadLine : mg "BadLine" = some (.ref (He.ga K "BadLine"))
  x_NotTaken_LowError : PySem.W.exmOne K (.ref (He.ga K "NotTaken")) (.ref (He.ga K "LowError")) = some true
  x_NoUnit_LowError : PySem.W.exmOne K (.ref (He.ga K "NoUnit")) (.ref (He.ga K "LowError")) = some true
  x_NoFunction_LowError : PySem.W.exmOne K (.ref (He.ga K "NoFunction")) (.ref (He.ga K "LowError")) = some true
  x_Twice_LowError : PySem.W.exmOne K (.ref (He.ga K "Twice")) (.ref (He.ga K "LowError")) = some true
  x_OtherShape_LowError : PySem.W.exmOne K (.ref (He.ga K "OtherShape")) (.ref (He.ga K "LowError")) = some true
  x_BadImage_LowError : PySem.W.exmOne K (.ref (He.ga K "BadImage")) (.ref (He.ga K "LowError")) = some true
  x_Refused_LowError : PySem.W.exmOne K (.ref (He.ga K "Refused")) (.ref (He.ga K "LowError")) = some true
  x_BadLine_LowError : PySem.W.exmOne K (.ref (He.ga K "BadLine")) (.ref (He.ga K "LowError")) = some true
  x_Refused_Refused : PySem.W.exmOne K (.ref (He.ga K "Refused")) (.ref (He.ga K "Refused")) = some true
  x_BadImage_BadImage : PySem.W.exmOne K (.ref (He.ga K "BadImage")) (.ref (He.ga K "BadImage")) = some true
  x_BadLine_BadLine : PySem.W.exmOne K (.ref (He.ga K "BadLine")) (.ref (He.ga K "BadLine")) = some true
  g_OPS : mg "OPS" = some (.ref (He.ga K "OPS"))
  g_PIECES : mg "PIECES" = some (.ref (He.ga K "PIECES"))
  g_Linker : mg "Linker" = some (.ref (He.ga K "Linker"))
  c_Linker : Cls K (He.ga K "Linker")
  m_Linker : Mk K (He.ga K "Linker") (He.ma K (He.ga K "Linker") "__init__")
  n_Linker_objects : NoAttr K (He.ga K "Linker") "objects"
  n_Linker_order : NoAttr K (He.ga K "Linker") "order"
  n_Linker_numbers : NoAttr K (He.ga K "Linker") "numbers"
  mt_Linker_function : Meth K (He.ga K "Linker") "function" (He.ma K (He.ga K "Linker") "function")
  mt_Linker_number : Meth K (He.ga K "Linker") "number" (He.ma K (He.ga K "Linker") "number")
  mt_Linker_linked : Meth K (He.ga K "Linker") "linked" (He.ma K (He.ga K "Linker") "linked")
  mt_Linker_run : Meth K (He.ga K "Linker") "run" (He.ma K (He.ga K "Linker") "run")
  g_Reader : mg "Reader" = some (.ref (He.ga K "Reader"))
  c_Reader : Cls K (He.ga K "Reader")
  m_Reader : Mk K (He.ga K "Reader") (He.ma K (He.ga K "Reader") "__init__")
  n_Reader_row : NoAttr K (He.ga K "Reader") "row"
  n_Reader_at : NoAttr K (He.ga K "Reader") "at"
  mt_Reader_byte : Meth K (He.ga K "Reader") "byte" (He.ma K (He.ga K "Reader") "byte")
  mt_Reader_number : Meth K (He.ga K "Reader") "number" (He.ma K (He.ga K "Reader") "number")
  mt_Reader_letter : Meth K (He.ga K "Reader") "letter" (He.ma K (He.ga K "Reader") "letter")
  mt_Reader_function : Meth K (He.ga K "Reader") "function" (He.ma K (He.ga K "Reader") "function")
  g_Lines : mg "Lines" = some (.ref (He.ga K "Lines"))
  c_Lines : Cls K (He.ga K "Lines")
  m_Lines : Mk K (He.ga K "Lines") (He.ma K (He.ga K "Lines") "__init__")
  n_Lines_lines : NoAttr K (He.ga K "Lines") "lines"
  n_Lines_at : NoAttr K (He.ga K "Lines") "at"
  mt_Lines_words : Meth K (He.ga K "Lines") "words" (He.ma K (He.ga K "Lines") "words")
  mt_Lines_function : Meth K (He.ga K "Lines") "function" (He.ma K (He.ga K "Lines") "function")
  g_Judge : mg "Judge" = some (.ref (He.ga K "Judge"))
  c_Judge : Cls K (He.ga K "Judge")
  m_Judge : Mk K (He.ga K "Judge") (He.ma K (He.ga K "Judge") "__init__")
  n_Judge_boxes : NoAttr K (He.ga K "Judge") "boxes"
  n_Judge_functions : NoAttr K (He.ga K "Judge") "functions"
  n_Judge_number : NoAttr K (He.ga K "Judge") "number"
  n_Judge_function : NoAttr K (He.ga K "Judge") "function"
  n_Judge_code : NoAttr K (He.ga K "Judge") "code"
  n_Judge_sure : NoAttr K (He.ga K "Judge") "sure"
  n_Judge_waiting : NoAttr K (He.ga K "Judge") "waiting"
  mt_Judge_refuse : Meth K (He.ga K "Judge") "refuse" (He.ma K (He.ga K "Judge") "refuse")
  mt_Judge_pieces : Meth K (He.ga K "Judge") "pieces" (He.ma K (He.ga K "Judge") "pieces")
  mt_Judge_shapes : Meth K (He.ga K "Judge") "shapes" (He.ma K (He.ga K "Judge") "shapes")
  mt_Judge_come : Meth K (He.ga K "Judge") "come" (He.ma K (He.ga K "Judge") "come")
  mt_Judge_need : Meth K (He.ga K "Judge") "need" (He.ma K (He.ga K "Judge") "need")
  mt_Judge_used : Meth K (He.ga K "Judge") "used" (He.ma K (He.ga K "Judge") "used")
  mt_Judge_behind : Meth K (He.ga K "Judge") "behind" (He.ma K (He.ga K "Judge") "behind")
  mt_Judge_taken : Meth K (He.ga K "Judge") "taken" (He.ma K (He.ga K "Judge") "taken")
  mt_Judge_goals : Meth K (He.ga K "Judge") "goals" (He.ma K (He.ga K "Judge") "goals")
  mt_Judge_run : Meth K (He.ga K "Judge") "run" (He.ma K (He.ga K "Judge") "run")
  len : mg "len" = none
  range : mg "range" = none
  list : mg "list" = none
  tuple : mg "tuple" = none
  dict : mg "dict" = none
  sorted : mg "sorted" = none
  int : mg "int" = none
  str : mg "str" = none
  isinstance : mg "isinstance" = none
  max : mg "max" = none
  min : mg "min" = none
  sum : mg "sum" = none
  bool : mg "bool" = none
  zip : mg "zip" = none
  enumerate : mg "enumerate" = none
  any : mg "any" = none
  all : mg "all" = none
  ValueError : mg "ValueError" = none
  super : mg "super" = none
  g_MATH : mg "MATH" = some (.ref (He.ga K "MATH"))
  tup_MATH : He.tupB K "MATH" [.str "plus", .str "minus", .str "times", .str "less", .str "same"] = true
  g_PURE : mg "PURE" = some (.ref (He.ga K "PURE"))
  tup_PURE : He.tupB K "PURE" [.str "word", .str "copy", .str "make", .str "closure", .str "caught"] = true
  g_SHARED : mg "SHARED" = some (.ref (He.ga K "SHARED"))
  tup_SHARED : He.tupB K "SHARED" [.str "word", .str "math", .str "not", .str "part", .str "tag", .str "size", .str "caught"] = true
  g_BY_LET : mg "BY_LET" = some (.ref (He.ga K "BY_LET"))
  tup_BY_LET : He.tupB K "BY_LET" [.str "fold", .str "copy", .str "drop", .str "part", .str "direct", .str "inline"] = true
  g_BY_BLOCK : mg "BY_BLOCK" = some (.ref (He.ga K "BY_BLOCK"))
  tup_BY_BLOCK : He.tupB K "BY_BLOCK" [.str "known", .str "thread", .str "join", .str "lost"] = true
  g_HEAD : mg "HEAD" = some (.ref (He.ga K "HEAD"))
  tup_HEAD : He.tupB K "HEAD" [.int 87, .int 68] = true
  g_GIVES : mg "GIVES" = some (.ref (He.ga K "GIVES"))
  tup_GIVES : He.tupB K "GIVES" [.str "word", .str "move", .str "not", .str "tag", .str "part", .str "at", .str "size", .str "array", .str "fetch", .str "param", .str "caught", .str "make", .str "closure", .str "answer"] = true
  g_LASTS : mg "LASTS" = some (.ref (He.ga K "LASTS"))
  tup_LASTS : He.tupB K "LASTS" [.str "to", .str "give", .str "raise"] = true
  g_ENTERS : mg "ENTERS" = some (.ref (He.ga K "ENTERS"))
  tup_ENTERS : He.tupB K "ENTERS" [.str "call", .str "apply"] = true
  g_MAY_RAISE : mg "MAY_RAISE" = some (.ref (He.ga K "MAY_RAISE"))
  tup_MAY_RAISE : He.tupB K "MAY_RAISE" [.str "math", .str "not", .str "tag", .str "part", .str "at", .str "put", .str "size", .str "array", .str "apply", .str "call", .str "tell", .str "spawn", .str "fork", .str "raise"] = true
  F_is_integer : FnP K "is_integer" "is_integer" s_is_integer (He.ga K "is_integer") d_is_integer
  b_is_integer : Binds K d_is_integer ["value"] []
  F_is_number : FnP K "is_number" "is_number" s_is_number (He.ga K "is_number") d_is_number
  b_is_number : Binds K d_is_number ["value", "low", "high"] []
  F_is_tuple : FnP K "is_tuple" "is_tuple" s_is_tuple (He.ga K "is_tuple") d_is_tuple
  b_is_tuple : Binds K d_is_tuple ["value", "size"] []
  F_is_word_name : FnP K "is_word_name" "is_word_name" s_is_word_name (He.ga K "is_word_name") d_is_word_name
  b_is_word_name : Binds K d_is_word_name ["value"] []
  F_names_in : FnP K "names_in" "names_in" s_names_in (He.ga K "names_in") d_names_in
  b_names_in : Binds K d_names_in ["marks", "item"] []
  F_names_of_op : FnP K "names_of_op" "names_of_op" s_names_of_op (He.ga K "names_of_op") d_names_of_op
  b_names_of_op : Binds K d_names_of_op ["op"] []
  F_table_of : FnP K "table_of" "table_of" s_table_of (He.ga K "table_of") d_table_of
  b_table_of : Binds K d_table_of ["units"] []
  F_asked_of : FnP K "asked_of" "asked_of" s_asked_of (He.ga K "asked_of") d_asked_of
  b_asked_of : Binds K d_asked_of ["instruction"] []
  F_Linker___init__ : FnP K "__init__" "Linker.__init__" s_Linker___init__ (He.ma K (He.ga K "Linker") "__init__") d_Linker___init__
  b_Linker___init__ : Binds K d_Linker___init__ ["self", "objects"] []
  F_Linker_function : FnP K "function" "Linker.function" s_Linker_function (He.ma K (He.ga K "Linker") "function") d_Linker_function
  b_Linker_function : Binds K d_Linker_function ["self", "unit", "name"] []
  F_Linker_number : FnP K "number" "Linker.number" s_Linker_number (He.ma K (He.ga K "Linker") "number") d_Linker_number
  b_Linker_number : Binds K d_Linker_number ["self", "unit", "name"] []
  F_Linker_linked : FnP K "linked" "Linker.linked" s_Linker_linked (He.ma K (He.ga K "Linker") "linked") d_Linker_linked
  b_Linker_linked : Binds K d_Linker_linked ["self", "instruction"] []
  F_Linker_run : FnP K "run" "Linker.run" s_Linker_run (He.ma K (He.ga K "Linker") "run") d_Linker_run
  b_Linker_run : Binds K d_Linker_run ["self", "entry"] []
  F_linked : FnP K "linked" "linked" s_linked (He.ga K "linked") d_linked
  b_linked : Binds K d_linked ["objects", "entry"] []
  F_require : FnP K "require" "require" s_require (He.ga K "require") d_require
  b_require : Binds K d_require ["condition"] []
  F_folded : FnP K "folded" "folded" s_folded (He.ga K "folded") d_folded
  b_folded : Binds K d_folded ["function", "block", "at"] []
  F_is_change : FnP K "is_change" "is_change" s_is_change (He.ga K "is_change") d_is_change
  b_is_change : Binds K d_is_change ["value"] []
  F_changed_function : FnP K "changed_function" "changed_function" s_changed_function (He.ga K "changed_function") d_changed_function
  b_changed_function : Binds K d_changed_function ["program", "change", "function"] []
  F_changed : FnP K "changed" "changed" s_changed (He.ga K "changed") d_changed
  b_changed : Binds K d_changed ["program", "change"] []
  F_with_function : FnP K "with_function" "with_function" s_with_function (He.ga K "with_function") d_with_function
  b_with_function : Binds K d_with_function ["program", "unit", "function"] []
  F_Reader___init__ : FnP K "__init__" "Reader.__init__" s_Reader___init__ (He.ma K (He.ga K "Reader") "__init__") d_Reader___init__
  b_Reader___init__ : Binds K d_Reader___init__ ["self", "row"] []
  F_Reader_byte : FnP K "byte" "Reader.byte" s_Reader_byte (He.ma K (He.ga K "Reader") "byte") d_Reader_byte
  b_Reader_byte : Binds K d_Reader_byte ["self"] []
  F_Reader_number : FnP K "number" "Reader.number" s_Reader_number (He.ma K (He.ga K "Reader") "number") d_Reader_number
  b_Reader_number : Binds K d_Reader_number ["self"] []
  F_Reader_letter : FnP K "letter" "Reader.letter" s_Reader_letter (He.ma K (He.ga K "Reader") "letter") d_Reader_letter
  b_Reader_letter : Binds K d_Reader_letter ["self"] []
  F_Reader_function : FnP K "function" "Reader.function" s_Reader_function (He.ma K (He.ga K "Reader") "function") d_Reader_function
  b_Reader_function : Binds K d_Reader_function ["self"] []
  F_image_from : FnP K "image_from" "image_from" s_image_from (He.ga K "image_from") d_image_from
  b_image_from : Binds K d_image_from ["row"] []
  F_number_from : FnP K "number_from" "number_from" s_number_from (He.ga K "number_from") d_number_from
  b_number_from : Binds K d_number_from ["text", "line"] []
  F_Lines___init__ : FnP K "__init__" "Lines.__init__" s_Lines___init__ (He.ma K (He.ga K "Lines") "__init__") d_Lines___init__
  b_Lines___init__ : Binds K d_Lines___init__ ["self", "lines"] []
  F_Lines_words : FnP K "words" "Lines.words" s_Lines_words (He.ma K (He.ga K "Lines") "words") d_Lines_words
  b_Lines_words : Binds K d_Lines_words ["self", "first", "size"] []
  F_Lines_function : FnP K "function" "Lines.function" s_Lines_function (He.ma K (He.ga K "Lines") "function") d_Lines_function
  b_Lines_function : Binds K d_Lines_function ["self"] []
  F_image_from_lines : FnP K "image_from_lines" "image_from_lines" s_image_from_lines (He.ga K "image_from_lines") d_image_from_lines
  b_image_from_lines : Binds K d_image_from_lines ["lines"] []
  F_Judge___init__ : FnP K "__init__" "Judge.__init__" s_Judge___init__ (He.ma K (He.ga K "Judge") "__init__") d_Judge___init__
  b_Judge___init__ : Binds K d_Judge___init__ ["self", "image", "number"] []
  F_Judge_refuse : FnP K "refuse" "Judge.refuse" s_Judge_refuse (He.ma K (He.ga K "Judge") "refuse") d_Judge_refuse
  b_Judge_refuse : Binds K d_Judge_refuse ["self", "kind", "at"] []
  F_Judge_pieces : FnP K "pieces" "Judge.pieces" s_Judge_pieces (He.ma K (He.ga K "Judge") "pieces") d_Judge_pieces
  b_Judge_pieces : Binds K d_Judge_pieces ["self", "at"] []
  F_Judge_shapes : FnP K "shapes" "Judge.shapes" s_Judge_shapes (He.ma K (He.ga K "Judge") "shapes") d_Judge_shapes
  b_Judge_shapes : Binds K d_Judge_shapes ["self", "at"] []
  F_Judge_come : FnP K "come" "Judge.come" s_Judge_come (He.ma K (He.ga K "Judge") "come") d_Judge_come
  b_Judge_come : Binds K d_Judge_come ["self", "at", "state"] []
  F_Judge_need : FnP K "need" "Judge.need" s_Judge_need (He.ma K (He.ga K "Judge") "need") d_Judge_need
  b_Judge_need : Binds K d_Judge_need ["self", "at", "boxes", "state"] []
  F_Judge_used : FnP K "used" "Judge.used" s_Judge_used (He.ma K (He.ga K "Judge") "used") d_Judge_used
  b_Judge_used : Binds K d_Judge_used ["self", "instruction"] []
  F_Judge_behind : FnP K "behind" "Judge.behind" s_Judge_behind (He.ma K (He.ga K "Judge") "behind") d_Judge_behind
  b_Judge_behind : Binds K d_Judge_behind ["self", "at", "state"] []
  F_Judge_taken : FnP K "taken" "Judge.taken" s_Judge_taken (He.ma K (He.ga K "Judge") "taken") d_Judge_taken
  b_Judge_taken : Binds K d_Judge_taken ["self", "instruction"] []
  F_Judge_goals : FnP K "goals" "Judge.goals" s_Judge_goals (He.ma K (He.ga K "Judge") "goals") d_Judge_goals
  b_Judge_goals : Binds K d_Judge_goals ["self", "at", "state"] []
  F_Judge_run : FnP K "run" "Judge.run" s_Judge_run (He.ma K (He.ga K "Judge") "run") d_Judge_run
  b_Judge_run : Binds K d_Judge_run ["self"] []
  F_judge : FnP K "judge" "judge" s_judge (He.ga K "judge") d_judge
  b_judge : Binds K d_judge ["image"] []
  F__law_cell : FnP K "_law_cell" "_law_cell" s_law_cell (He.ga K "_law_cell") d__law_cell
  b__law_cell : Binds K d__law_cell ["script", "k"] []
  F__law_numbers : FnP K "_law_numbers" "_law_numbers" s_law_numbers (He.ga K "_law_numbers") d__law_numbers
  b__law_numbers : Binds K d__law_numbers ["cell", "many"] []
  F__law_pool : FnP K "_law_pool" "_law_pool" s_law_pool (He.ga K "_law_pool") d__law_pool
  b__law_pool : Binds K d__law_pool ["script"] []
  F__law_draw : FnP K "_law_draw" "_law_draw" s_law_draw (He.ga K "_law_draw") d__law_draw
  b__law_draw : Binds K d__law_draw ["pool", "many"] []
  F__law_kind : FnP K "_law_kind" "_law_kind" s_law_kind (He.ga K "_law_kind") d__law_kind
  b__law_kind : Binds K d__law_kind ["x"] []
  F__law_equal : FnP K "_law_equal" "_law_equal" s_law_equal (He.ga K "_law_equal") d__law_equal
  b__law_equal : Binds K d__law_equal ["x", "due"] []
  F__law_kinds_of : FnP K "_law_kinds_of" "_law_kinds_of" s_law_kinds_of (He.ga K "_law_kinds_of") d__law_kinds_of
  b__law_kinds_of : Binds K d__law_kinds_of ["e"] []
  F__law_do : FnP K "_law_do" "_law_do" s_law_do (He.ga K "_law_do") d__law_do
  b__law_do : Binds K d__law_do ["way", "number"] []
  F_law : FnP K "law" "law" s_law (He.ga K "law") d_law
  b_law : Binds K d_law ["script"] []
  LETTERS_shapes : mg "LETTERS_shapes" = some (.str "abcdefghijklmnopqrstuvwxyz" t_LETTERS_shapes)
  LONGEST_NAME : mg "LONGEST_NAME" = some (.int 12 t_LONGEST_NAME)
  MOST_WORD : mg "MOST_WORD" = some (.int 9999 t_MOST_WORD)
  MOST_NAME : mg "MOST_NAME" = some (.int 999 t_MOST_NAME)
  MOST_PLACE : mg "MOST_PLACE" = some (.int 99999 t_MOST_PLACE)
  MOST_BLOCKS : mg "MOST_BLOCKS" = some (.int 40 t_MOST_BLOCKS)
  MOST_LETS : mg "MOST_LETS" = some (.int 60 t_MOST_LETS)
  MOST_ARGS : mg "MOST_ARGS" = some (.int 8 t_MOST_ARGS)
  MOST_FUNCTIONS : mg "MOST_FUNCTIONS" = some (.int 12 t_MOST_FUNCTIONS)
  MOST_UNITS : mg "MOST_UNITS" = some (.int 6 t_MOST_UNITS)
  BASE : mg "BASE" = some (.int 10000 t_BASE)
  MODULUS : mg "MODULUS" = some (.int 251 t_MODULUS)
  MOST : mg "MOST" = some (.int 999999 t_MOST)
  LETTERS_image_bytes : mg "LETTERS_image_bytes" = some (.str "abcdefghijklmnopqrstuvwxyz." t_LETTERS_image_bytes)
  DIGITS : mg "DIGITS" = some (.str "0123456789" t_DIGITS)
  FEWEST_BOXES : mg "FEWEST_BOXES" = some (.int 4 t_FEWEST_BOXES)
  MOST_BOXES : mg "MOST_BOXES" = some (.int 16 t_MOST_BOXES)
def fnL : List He.DefD := [⟨("is_integer", none), "is_integer", "is_integer", defArgs s_is_integer, defBody s_is_integer, defScope s_is_integer, [], []⟩,
  ⟨("is_number", none), "is_number", "is_number", defArgs s_is_number, defBody s_is_number, defScope s_is_number, [], []⟩,
  ⟨("is_tuple", none), "is_tuple", "is_tuple", defArgs s_is_tuple, defBody s_is_tuple, defScope s_is_tuple, [], []⟩,
  ⟨("is_word_name", none), "is_word_name", "is_word_name", defArgs s_is_word_name, defBody s_is_word_name, defScope s_is_word_name, [], []⟩,
  ⟨("names_in", none), "names_in", "names_in", defArgs s_names_in, defBody s_names_in, defScope s_names_in, [], []⟩,
  ⟨("names_of_op", none), "names_of_op", "names_of_op", defArgs s_names_of_op, defBody s_names_of_op, defScope s_names_of_op, [], []⟩,
  ⟨("table_of", none), "table_of", "table_of", defArgs s_table_of, defBody s_table_of, defScope s_table_of, [], []⟩,
  ⟨("asked_of", none), "asked_of", "asked_of", defArgs s_asked_of, defBody s_asked_of, defScope s_asked_of, [], []⟩,
  ⟨("Linker", some "__init__"), "__init__", "Linker.__init__", defArgs s_Linker___init__, defBody s_Linker___init__, defScope s_Linker___init__, [], []⟩,
  ⟨("Linker", some "function"), "function", "Linker.function", defArgs s_Linker_function, defBody s_Linker_function, defScope s_Linker_function, [], []⟩,
  ⟨("Linker", some "number"), "number", "Linker.number", defArgs s_Linker_number, defBody s_Linker_number, defScope s_Linker_number, [], []⟩,
  ⟨("Linker", some "linked"), "linked", "Linker.linked", defArgs s_Linker_linked, defBody s_Linker_linked, defScope s_Linker_linked, [], []⟩,
  ⟨("Linker", some "run"), "run", "Linker.run", defArgs s_Linker_run, defBody s_Linker_run, defScope s_Linker_run, [], []⟩,
  ⟨("linked", none), "linked", "linked", defArgs s_linked, defBody s_linked, defScope s_linked, [], []⟩,
  ⟨("require", none), "require", "require", defArgs s_require, defBody s_require, defScope s_require, [], []⟩,
  ⟨("folded", none), "folded", "folded", defArgs s_folded, defBody s_folded, defScope s_folded, [], []⟩,
  ⟨("is_change", none), "is_change", "is_change", defArgs s_is_change, defBody s_is_change, defScope s_is_change, [], []⟩,
  ⟨("changed_function", none), "changed_function", "changed_function", defArgs s_changed_function, defBody s_changed_function, defScope s_changed_function, [], []⟩,
  ⟨("changed", none), "changed", "changed", defArgs s_changed, defBody s_changed, defScope s_changed, [], []⟩,
  ⟨("with_function", none), "with_function", "with_function", defArgs s_with_function, defBody s_with_function, defScope s_with_function, [], []⟩,
  ⟨("Reader", some "__init__"), "__init__", "Reader.__init__", defArgs s_Reader___init__, defBody s_Reader___init__, defScope s_Reader___init__, [], []⟩,
  ⟨("Reader", some "byte"), "byte", "Reader.byte", defArgs s_Reader_byte, defBody s_Reader_byte, defScope s_Reader_byte, [], []⟩,
  ⟨("Reader", some "number"), "number", "Reader.number", defArgs s_Reader_number, defBody s_Reader_number, defScope s_Reader_number, [], []⟩,
  ⟨("Reader", some "letter"), "letter", "Reader.letter", defArgs s_Reader_letter, defBody s_Reader_letter, defScope s_Reader_letter, [], []⟩,
  ⟨("Reader", some "function"), "function", "Reader.function", defArgs s_Reader_function, defBody s_Reader_function, defScope s_Reader_function, [], []⟩,
  ⟨("image_from", none), "image_from", "image_from", defArgs s_image_from, defBody s_image_from, defScope s_image_from, [], []⟩,
  ⟨("number_from", none), "number_from", "number_from", defArgs s_number_from, defBody s_number_from, defScope s_number_from, [], []⟩,
  ⟨("Lines", some "__init__"), "__init__", "Lines.__init__", defArgs s_Lines___init__, defBody s_Lines___init__, defScope s_Lines___init__, [], []⟩,
  ⟨("Lines", some "words"), "words", "Lines.words", defArgs s_Lines_words, defBody s_Lines_words, defScope s_Lines_words, [], []⟩,
  ⟨("Lines", some "function"), "function", "Lines.function", defArgs s_Lines_function, defBody s_Lines_function, defScope s_Lines_function, [], []⟩,
  ⟨("image_from_lines", none), "image_from_lines", "image_from_lines", defArgs s_image_from_lines, defBody s_image_from_lines, defScope s_image_from_lines, [], []⟩,
  ⟨("Judge", some "__init__"), "__init__", "Judge.__init__", defArgs s_Judge___init__, defBody s_Judge___init__, defScope s_Judge___init__, [], []⟩,
  ⟨("Judge", some "refuse"), "refuse", "Judge.refuse", defArgs s_Judge_refuse, defBody s_Judge_refuse, defScope s_Judge_refuse, [], []⟩,
  ⟨("Judge", some "pieces"), "pieces", "Judge.pieces", defArgs s_Judge_pieces, defBody s_Judge_pieces, defScope s_Judge_pieces, [], []⟩,
  ⟨("Judge", some "shapes"), "shapes", "Judge.shapes", defArgs s_Judge_shapes, defBody s_Judge_shapes, defScope s_Judge_shapes, [], []⟩,
  ⟨("Judge", some "come"), "come", "Judge.come", defArgs s_Judge_come, defBody s_Judge_come, defScope s_Judge_come, [], []⟩,
  ⟨("Judge", some "need"), "need", "Judge.need", defArgs s_Judge_need, defBody s_Judge_need, defScope s_Judge_need, [], []⟩,
  ⟨("Judge", some "used"), "used", "Judge.used", defArgs s_Judge_used, defBody s_Judge_used, defScope s_Judge_used, [], []⟩,
  ⟨("Judge", some "behind"), "behind", "Judge.behind", defArgs s_Judge_behind, defBody s_Judge_behind, defScope s_Judge_behind, [], []⟩,
  ⟨("Judge", some "taken"), "taken", "Judge.taken", defArgs s_Judge_taken, defBody s_Judge_taken, defScope s_Judge_taken, [], []⟩,
  ⟨("Judge", some "goals"), "goals", "Judge.goals", defArgs s_Judge_goals, defBody s_Judge_goals, defScope s_Judge_goals, [], []⟩,
  ⟨("Judge", some "run"), "run", "Judge.run", defArgs s_Judge_run, defBody s_Judge_run, defScope s_Judge_run, [], []⟩,
  ⟨("judge", none), "judge", "judge", defArgs s_judge, defBody s_judge, defScope s_judge, [], []⟩,
  ⟨("_law_cell", none), "_law_cell", "_law_cell", defArgs s_law_cell, defBody s_law_cell, defScope s_law_cell, [], []⟩,
  ⟨("_law_numbers", none), "_law_numbers", "_law_numbers", defArgs s_law_numbers, defBody s_law_numbers, defScope s_law_numbers, [], []⟩,
  ⟨("_law_pool", none), "_law_pool", "_law_pool", defArgs s_law_pool, defBody s_law_pool, defScope s_law_pool, [], []⟩,
  ⟨("_law_draw", none), "_law_draw", "_law_draw", defArgs s_law_draw, defBody s_law_draw, defScope s_law_draw, [], []⟩,
  ⟨("_law_kind", none), "_law_kind", "_law_kind", defArgs s_law_kind, defBody s_law_kind, defScope s_law_kind, [], []⟩,
  ⟨("_law_equal", none), "_law_equal", "_law_equal", defArgs s_law_equal, defBody s_law_equal, defScope s_law_equal, [], []⟩,
  ⟨("_law_kinds_of", none), "_law_kinds_of", "_law_kinds_of", defArgs s_law_kinds_of, defBody s_law_kinds_of, defScope s_law_kinds_of, [], []⟩,
  ⟨("_law_do", none), "_law_do", "_law_do", defArgs s_law_do, defBody s_law_do, defScope s_law_do, [], []⟩,
  ⟨("law", none), "law", "law", defArgs s_law, defBody s_law, defScope s_law, [], []⟩]
def faL : List He.Fa := [.glo "is_integer", .glo "is_number", .glo "is_tuple", .glo "is_word_name", .glo "names_in", .glo "names_of_op", .glo "table_of", .glo "asked_of", .glo "linked", .glo "require", .glo "folded", .glo "is_change", .glo "changed_function", .glo "changed", .glo "with_function", .glo "image_from", .glo "number_from", .glo "image_from_lines", .glo "judge", .glo "_law_cell", .glo "_law_numbers", .glo "_law_pool", .glo "_law_draw", .glo "_law_kind", .glo "_law_equal", .glo "_law_kinds_of", .glo "_law_do", .glo "law", .glo "LowError", .exc "LowError", .exm "LowError" "LowError" true, .glo "NotTaken", .exc "NotTaken", .exm "NotTaken" "NotTaken" true, .glo "NoUnit", .exc "NoUnit", .exm "NoUnit" "NoUnit" true, .glo "NoFunction", .exc "NoFunction", .exm "NoFunction" "NoFunction" true, .glo "Twice", .exc "Twice", .exm "Twice" "Twice" true, .glo "OtherShape", .exc "OtherShape", .exm "OtherShape" "OtherShape" true, .glo "BadImage", .glo "Refused", .glo "BadLine", .exm "NotTaken" "LowError" true, .exm "NoUnit" "LowError" true, .exm "NoFunction" "LowError" true, .exm "Twice" "LowError" true, .exm "OtherShape" "LowError" true, .exm "BadImage" "LowError" true, .exm "Refused" "LowError" true, .exm "BadLine" "LowError" true, .exm "Refused" "Refused" true, .exm "BadImage" "BadImage" true, .exm "BadLine" "BadLine" true, .glo "OPS", .glo "PIECES", .glo "Linker", .cls "Linker", .mkr "Linker", .noat "Linker" "objects", .noat "Linker" "order", .noat "Linker" "numbers", .meth "Linker" "function", .meth "Linker" "number", .meth "Linker" "linked", .meth "Linker" "run", .glo "Reader", .cls "Reader", .mkr "Reader", .noat "Reader" "row", .noat "Reader" "at", .meth "Reader" "byte", .meth "Reader" "number", .meth "Reader" "letter", .meth "Reader" "function", .glo "Lines", .cls "Lines", .mkr "Lines", .noat "Lines" "lines", .noat "Lines" "at", .meth "Lines" "words", .meth "Lines" "function", .glo "Judge", .cls "Judge", .mkr "Judge", .noat "Judge" "boxes", .noat "Judge" "functions", .noat "Judge" "number", .noat "Judge" "function", .noat "Judge" "code", .noat "Judge" "sure", .noat "Judge" "waiting", .meth "Judge" "refuse", .meth "Judge" "pieces", .meth "Judge" "shapes", .meth "Judge" "come", .meth "Judge" "need", .meth "Judge" "used", .meth "Judge" "behind", .meth "Judge" "taken", .meth "Judge" "goals", .meth "Judge" "run", .free "len", .free "range", .free "list", .free "tuple", .free "dict", .free "sorted", .free "int", .free "str", .free "isinstance", .free "max", .free "min", .free "sum", .free "bool", .free "zip", .free "enumerate", .free "any", .free "all", .free "ValueError", .free "super", .str "LETTERS_shapes" "abcdefghijklmnopqrstuvwxyz", .int "LONGEST_NAME" 12, .int "MOST_WORD" 9999, .int "MOST_NAME" 999, .int "MOST_PLACE" 99999, .int "MOST_BLOCKS" 40, .int "MOST_LETS" 60, .int "MOST_ARGS" 8, .int "MOST_FUNCTIONS" 12, .int "MOST_UNITS" 6, .glo "MATH", .int "BASE" 10000, .glo "PURE", .glo "SHARED", .glo "BY_LET", .glo "BY_BLOCK", .glo "HEAD", .int "MODULUS" 251, .int "MOST" 999999, .str "LETTERS_image_bytes" "abcdefghijklmnopqrstuvwxyz.", .str "DIGITS" "0123456789", .int "FEWEST_BOXES" 4, .int "MOST_BOXES" 16, .glo "GIVES", .glo "LASTS", .glo "ENTERS", .glo "MAY_RAISE"]
def tpL : List (Str × List He.Dv) := [("MATH", [.str "plus", .str "minus", .str "times", .str "less", .str "same"]), ("PURE", [.str "word", .str "copy", .str "make", .str "closure", .str "caught"]), ("SHARED", [.str "word", .str "math", .str "not", .str "part", .str "tag", .str "size", .str "caught"]), ("BY_LET", [.str "fold", .str "copy", .str "drop", .str "part", .str "direct", .str "inline"]), ("BY_BLOCK", [.str "known", .str "thread", .str "join", .str "lost"]), ("HEAD", [.int 87, .int 68]), ("GIVES", [.str "word", .str "move", .str "not", .str "tag", .str "part", .str "at", .str "size", .str "array", .str "fetch", .str "param", .str "caught", .str "make", .str "closure", .str "answer"]), ("LASTS", [.str "to", .str "give", .str "raise"]), ("ENTERS", [.str "call", .str "apply"]), ("MAY_RAISE", [.str "math", .str "not", .str "tag", .str "part", .str "at", .str "put", .str "size", .str "array", .str "apply", .str "call", .str "tell", .str "spawn", .str "fork", .str "raise"])]
theorem txt_of {K : PySem.W.Frag} {h : Heap} {mg : Str → Option Value} (X : K.In h) (G : h.Ns mainGlobals mg) (c : He.SaysD faL fnL K) (ct : (tpL.all fun p => He.tupB K p.1 p.2) = true) : Nonempty (Txt K mg) := by
  have tp : ∀ (i : Nat) {p : Str × List He.Dv}, tpL[i]? = some p → He.tupB K p.1 p.2 = true := fun i p h => List.all_eq_true.mp ct p (List.mem_of_getElem? h)
  obtain ⟨t_LETTERS_shapes, e_LETTERS_shapes⟩ := He.str_ok X G (c.fact 127 (f := .str "LETTERS_shapes" "abcdefghijklmnopqrstuvwxyz") rfl)
  obtain ⟨t_LONGEST_NAME, e_LONGEST_NAME⟩ := He.int_ok X G (c.fact 128 (f := .int "LONGEST_NAME" 12) rfl)
  obtain ⟨t_MOST_WORD, e_MOST_WORD⟩ := He.int_ok X G (c.fact 129 (f := .int "MOST_WORD" 9999) rfl)
  obtain ⟨t_MOST_NAME, e_MOST_NAME⟩ := He.int_ok X G (c.fact 130 (f := .int "MOST_NAME" 999) rfl)
  obtain ⟨t_MOST_PLACE, e_MOST_PLACE⟩ := He.int_ok X G (c.fact 131 (f := .int "MOST_PLACE" 99999) rfl)
  obtain ⟨t_MOST_BLOCKS, e_MOST_BLOCKS⟩ := He.int_ok X G (c.fact 132 (f := .int "MOST_BLOCKS" 40) rfl)
  obtain ⟨t_MOST_LETS, e_MOST_LETS⟩ := He.int_ok X G (c.fact 133 (f := .int "MOST_LETS" 60) rfl)
  obtain ⟨t_MOST_ARGS, e_MOST_ARGS⟩ := He.int_ok X G (c.fact 134 (f := .int "MOST_ARGS" 8) rfl)
  obtain ⟨t_MOST_FUNCTIONS, e_MOST_FUNCTIONS⟩ := He.int_ok X G (c.fact 135 (f := .int "MOST_FUNCTIONS" 12) rfl)
  obtain ⟨t_MOST_UNITS, e_MOST_UNITS⟩ := He.int_ok X G (c.fact 136 (f := .int "MOST_UNITS" 6) rfl)
  obtain ⟨t_BASE, e_BASE⟩ := He.int_ok X G (c.fact 138 (f := .int "BASE" 10000) rfl)
  obtain ⟨t_MODULUS, e_MODULUS⟩ := He.int_ok X G (c.fact 144 (f := .int "MODULUS" 251) rfl)
  obtain ⟨t_MOST, e_MOST⟩ := He.int_ok X G (c.fact 145 (f := .int "MOST" 999999) rfl)
  obtain ⟨t_LETTERS_image_bytes, e_LETTERS_image_bytes⟩ := He.str_ok X G (c.fact 146 (f := .str "LETTERS_image_bytes" "abcdefghijklmnopqrstuvwxyz.") rfl)
  obtain ⟨t_DIGITS, e_DIGITS⟩ := He.str_ok X G (c.fact 147 (f := .str "DIGITS" "0123456789") rfl)
  obtain ⟨t_FEWEST_BOXES, e_FEWEST_BOXES⟩ := He.int_ok X G (c.fact 148 (f := .int "FEWEST_BOXES" 4) rfl)
  obtain ⟨t_MOST_BOXES, e_MOST_BOXES⟩ := He.int_ok X G (c.fact 149 (f := .int "MOST_BOXES" 16) rfl)
  obtain ⟨d_is_integer, F_is_integer⟩ := c.def_ 0 rfl
  obtain ⟨d_is_number, F_is_number⟩ := c.def_ 1 rfl
  obtain ⟨d_is_tuple, F_is_tuple⟩ := c.def_ 2 rfl
  obtain ⟨d_is_word_name, F_is_word_name⟩ := c.def_ 3 rfl
  obtain ⟨d_names_in, F_names_in⟩ := c.def_ 4 rfl
  obtain ⟨d_names_of_op, F_names_of_op⟩ := c.def_ 5 rfl
  obtain ⟨d_table_of, F_table_of⟩ := c.def_ 6 rfl
  obtain ⟨d_asked_of, F_asked_of⟩ := c.def_ 7 rfl
  obtain ⟨d_Linker___init__, F_Linker___init__⟩ := c.def_ 8 rfl
  obtain ⟨d_Linker_function, F_Linker_function⟩ := c.def_ 9 rfl
  obtain ⟨d_Linker_number, F_Linker_number⟩ := c.def_ 10 rfl
  obtain ⟨d_Linker_linked, F_Linker_linked⟩ := c.def_ 11 rfl
  obtain ⟨d_Linker_run, F_Linker_run⟩ := c.def_ 12 rfl
  obtain ⟨d_linked, F_linked⟩ := c.def_ 13 rfl
  obtain ⟨d_require, F_require⟩ := c.def_ 14 rfl
  obtain ⟨d_folded, F_folded⟩ := c.def_ 15 rfl
  obtain ⟨d_is_change, F_is_change⟩ := c.def_ 16 rfl
  obtain ⟨d_changed_function, F_changed_function⟩ := c.def_ 17 rfl
  obtain ⟨d_changed, F_changed⟩ := c.def_ 18 rfl
  obtain ⟨d_with_function, F_with_function⟩ := c.def_ 19 rfl
  obtain ⟨d_Reader___init__, F_Reader___init__⟩ := c.def_ 20 rfl
  obtain ⟨d_Reader_byte, F_Reader_byte⟩ := c.def_ 21 rfl
  obtain ⟨d_Reader_number, F_Reader_number⟩ := c.def_ 22 rfl
  obtain ⟨d_Reader_letter, F_Reader_letter⟩ := c.def_ 23 rfl
  obtain ⟨d_Reader_function, F_Reader_function⟩ := c.def_ 24 rfl
  obtain ⟨d_image_from, F_image_from⟩ := c.def_ 25 rfl
  obtain ⟨d_number_from, F_number_from⟩ := c.def_ 26 rfl
  obtain ⟨d_Lines___init__, F_Lines___init__⟩ := c.def_ 27 rfl
  obtain ⟨d_Lines_words, F_Lines_words⟩ := c.def_ 28 rfl
  obtain ⟨d_Lines_function, F_Lines_function⟩ := c.def_ 29 rfl
  obtain ⟨d_image_from_lines, F_image_from_lines⟩ := c.def_ 30 rfl
  obtain ⟨d_Judge___init__, F_Judge___init__⟩ := c.def_ 31 rfl
  obtain ⟨d_Judge_refuse, F_Judge_refuse⟩ := c.def_ 32 rfl
  obtain ⟨d_Judge_pieces, F_Judge_pieces⟩ := c.def_ 33 rfl
  obtain ⟨d_Judge_shapes, F_Judge_shapes⟩ := c.def_ 34 rfl
  obtain ⟨d_Judge_come, F_Judge_come⟩ := c.def_ 35 rfl
  obtain ⟨d_Judge_need, F_Judge_need⟩ := c.def_ 36 rfl
  obtain ⟨d_Judge_used, F_Judge_used⟩ := c.def_ 37 rfl
  obtain ⟨d_Judge_behind, F_Judge_behind⟩ := c.def_ 38 rfl
  obtain ⟨d_Judge_taken, F_Judge_taken⟩ := c.def_ 39 rfl
  obtain ⟨d_Judge_goals, F_Judge_goals⟩ := c.def_ 40 rfl
  obtain ⟨d_Judge_run, F_Judge_run⟩ := c.def_ 41 rfl
  obtain ⟨d_judge, F_judge⟩ := c.def_ 42 rfl
  obtain ⟨d__law_cell, F__law_cell⟩ := c.def_ 43 rfl
  obtain ⟨d__law_numbers, F__law_numbers⟩ := c.def_ 44 rfl
  obtain ⟨d__law_pool, F__law_pool⟩ := c.def_ 45 rfl
  obtain ⟨d__law_draw, F__law_draw⟩ := c.def_ 46 rfl
  obtain ⟨d__law_kind, F__law_kind⟩ := c.def_ 47 rfl
  obtain ⟨d__law_equal, F__law_equal⟩ := c.def_ 48 rfl
  obtain ⟨d__law_kinds_of, F__law_kinds_of⟩ := c.def_ 49 rfl
  obtain ⟨d__law_do, F__law_do⟩ := c.def_ 50 rfl
  obtain ⟨d_law, F_law⟩ := c.def_ 51 rfl
  exact ⟨{
    d_is_integer := d_is_integer,
    d_is_number := d_is_number,
    d_is_tuple := d_is_tuple,
    d_is_word_name := d_is_word_name,
    d_names_in := d_names_in,
    d_names_of_op := d_names_of_op,
    d_table_of := d_table_of,
    d_asked_of := d_asked_of,
    d_Linker___init__ := d_Linker___init__,
    d_Linker_function := d_Linker_function,
    d_Linker_number := d_Linker_number,
    d_Linker_linked := d_Linker_linked,
    d_Linker_run := d_Linker_run,
    d_linked := d_linked,
    d_require := d_require,
    d_folded := d_folded,
    d_is_change := d_is_change,
    d_changed_function := d_changed_function,
    d_changed := d_changed,
    d_with_function := d_with_function,
    d_Reader___init__ := d_Reader___init__,
    d_Reader_byte := d_Reader_byte,
    d_Reader_number := d_Reader_number,
    d_Reader_letter := d_Reader_letter,
    d_Reader_function := d_Reader_function,
    d_image_from := d_image_from,
    d_number_from := d_number_from,
    d_Lines___init__ := d_Lines___init__,
    d_Lines_words := d_Lines_words,
    d_Lines_function := d_Lines_function,
    d_image_from_lines := d_image_from_lines,
    d_Judge___init__ := d_Judge___init__,
    d_Judge_refuse := d_Judge_refuse,
    d_Judge_pieces := d_Judge_pieces,
    d_Judge_shapes := d_Judge_shapes,
    d_Judge_come := d_Judge_come,
    d_Judge_need := d_Judge_need,
    d_Judge_used := d_Judge_used,
    d_Judge_behind := d_Judge_behind,
    d_Judge_taken := d_Judge_taken,
    d_Judge_goals := d_Judge_goals,
    d_Judge_run := d_Judge_run,
    d_judge := d_judge,
    d__law_cell := d__law_cell,
    d__law_numbers := d__law_numbers,
    d__law_pool := d__law_pool,
    d__law_draw := d__law_draw,
    d__law_kind := d__law_kind,
    d__law_equal := d__law_equal,
    d__law_kinds_of := d__law_kinds_of,
    d__law_do := d__law_do,
    d_law := d_law,
    t_LETTERS_shapes := t_LETTERS_shapes,
    t_LONGEST_NAME := t_LONGEST_NAME,
    t_MOST_WORD := t_MOST_WORD,
    t_MOST_NAME := t_MOST_NAME,
    t_MOST_PLACE := t_MOST_PLACE,
    t_MOST_BLOCKS := t_MOST_BLOCKS,
    t_MOST_LETS := t_MOST_LETS,
    t_MOST_ARGS := t_MOST_ARGS,
    t_MOST_FUNCTIONS := t_MOST_FUNCTIONS,
    t_MOST_UNITS := t_MOST_UNITS,
    t_BASE := t_BASE,
    t_MODULUS := t_MODULUS,
    t_MOST := t_MOST,
    t_LETTERS_image_bytes := t_LETTERS_image_bytes,
    t_DIGITS := t_DIGITS,
    t_FEWEST_BOXES := t_FEWEST_BOXES,
    t_MOST_BOXES := t_MOST_BOXES,
    g_is_integer := He.glo_ok X G (c.fact 0 rfl),
    g_is_number := He.glo_ok X G (c.fact 1 rfl),
    g_is_tuple := He.glo_ok X G (c.fact 2 rfl),
    g_is_word_name := He.glo_ok X G (c.fact 3 rfl),
    g_names_in := He.glo_ok X G (c.fact 4 rfl),
    g_names_of_op := He.glo_ok X G (c.fact 5 rfl),
    g_table_of := He.glo_ok X G (c.fact 6 rfl),
    g_asked_of := He.glo_ok X G (c.fact 7 rfl),
    g_linked := He.glo_ok X G (c.fact 8 rfl),
    g_require := He.glo_ok X G (c.fact 9 rfl),
    g_folded := He.glo_ok X G (c.fact 10 rfl),
    g_is_change := He.glo_ok X G (c.fact 11 rfl),
    g_changed_function := He.glo_ok X G (c.fact 12 rfl),
    g_changed := He.glo_ok X G (c.fact 13 rfl),
    g_with_function := He.glo_ok X G (c.fact 14 rfl),
    g_image_from := He.glo_ok X G (c.fact 15 rfl),
    g_number_from := He.glo_ok X G (c.fact 16 rfl),
    g_image_from_lines := He.glo_ok X G (c.fact 17 rfl),
    g_judge := He.glo_ok X G (c.fact 18 rfl),
    g__law_cell := He.glo_ok X G (c.fact 19 rfl),
    g__law_numbers := He.glo_ok X G (c.fact 20 rfl),
    g__law_pool := He.glo_ok X G (c.fact 21 rfl),
    g__law_draw := He.glo_ok X G (c.fact 22 rfl),
    g__law_kind := He.glo_ok X G (c.fact 23 rfl),
    g__law_equal := He.glo_ok X G (c.fact 24 rfl),
    g__law_kinds_of := He.glo_ok X G (c.fact 25 rfl),
    g__law_do := He.glo_ok X G (c.fact 26 rfl),
    g_law := He.glo_ok X G (c.fact 27 rfl),
    g_LowError := He.glo_ok X G (c.fact 28 rfl),
    e_LowError := He.exc_ok (c.fact 29 rfl),
    x_LowError := He.exm_ok (c.fact 30 rfl),
    g_NotTaken := He.glo_ok X G (c.fact 31 rfl),
    e_NotTaken := He.exc_ok (c.fact 32 rfl),
    x_NotTaken := He.exm_ok (c.fact 33 rfl),
    g_NoUnit := He.glo_ok X G (c.fact 34 rfl),
    e_NoUnit := He.exc_ok (c.fact 35 rfl),
    x_NoUnit := He.exm_ok (c.fact 36 rfl),
    g_NoFunction := He.glo_ok X G (c.fact 37 rfl),
    e_NoFunction := He.exc_ok (c.fact 38 rfl),
    x_NoFunction := He.exm_ok (c.fact 39 rfl),
    g_Twice := He.glo_ok X G (c.fact 40 rfl),
    e_Twice := He.exc_ok (c.fact 41 rfl),
    x_Twice := He.exm_ok (c.fact 42 rfl),
    g_OtherShape := He.glo_ok X G (c.fact 43 rfl),
    e_OtherShape := He.exc_ok (c.fact 44 rfl),
    x_OtherShape := He.exm_ok (c.fact 45 rfl),
    g_BadImage := He.glo_ok X G (c.fact 46 rfl),
    g_Refused := He.glo_ok X G (c.fact 47 rfl),
    g_BadLine := He.glo_ok X G (c.fact 48 rfl),
    x_NotTaken_LowError := He.exm_ok (c.fact 49 rfl),
    x_NoUnit_LowError := He.exm_ok (c.fact 50 rfl),
    x_NoFunction_LowError := He.exm_ok (c.fact 51 rfl),
    x_Twice_LowError := He.exm_ok (c.fact 52 rfl),
    x_OtherShape_LowError := He.exm_ok (c.fact 53 rfl),
    x_BadImage_LowError := He.exm_ok (c.fact 54 rfl),
    x_Refused_LowError := He.exm_ok (c.fact 55 rfl),
    x_BadLine_LowError := He.exm_ok (c.fact 56 rfl),
    x_Refused_Refused := He.exm_ok (c.fact 57 rfl),
    x_BadImage_BadImage := He.exm_ok (c.fact 58 rfl),
    x_BadLine_BadLine := He.exm_ok (c.fact 59 rfl),
    g_OPS := He.glo_ok X G (c.fact 60 rfl),
    g_PIECES := He.glo_ok X G (c.fact 61 rfl),
    g_Linker := He.glo_ok X G (c.fact 62 rfl),
    c_Linker := He.cls_ok (c.fact 63 rfl),
    m_Linker := He.mkr_ok (c.fact 64 rfl),
    n_Linker_objects := He.noat_ok (c.fact 65 rfl),
    n_Linker_order := He.noat_ok (c.fact 66 rfl),
    n_Linker_numbers := He.noat_ok (c.fact 67 rfl),
    mt_Linker_function := He.meth_ok (c.fact 68 rfl),
    mt_Linker_number := He.meth_ok (c.fact 69 rfl),
    mt_Linker_linked := He.meth_ok (c.fact 70 rfl),
    mt_Linker_run := He.meth_ok (c.fact 71 rfl),
    g_Reader := He.glo_ok X G (c.fact 72 rfl),
    c_Reader := He.cls_ok (c.fact 73 rfl),
    m_Reader := He.mkr_ok (c.fact 74 rfl),
    n_Reader_row := He.noat_ok (c.fact 75 rfl),
    n_Reader_at := He.noat_ok (c.fact 76 rfl),
    mt_Reader_byte := He.meth_ok (c.fact 77 rfl),
    mt_Reader_number := He.meth_ok (c.fact 78 rfl),
    mt_Reader_letter := He.meth_ok (c.fact 79 rfl),
    mt_Reader_function := He.meth_ok (c.fact 80 rfl),
    g_Lines := He.glo_ok X G (c.fact 81 rfl),
    c_Lines := He.cls_ok (c.fact 82 rfl),
    m_Lines := He.mkr_ok (c.fact 83 rfl),
    n_Lines_lines := He.noat_ok (c.fact 84 rfl),
    n_Lines_at := He.noat_ok (c.fact 85 rfl),
    mt_Lines_words := He.meth_ok (c.fact 86 rfl),
    mt_Lines_function := He.meth_ok (c.fact 87 rfl),
    g_Judge := He.glo_ok X G (c.fact 88 rfl),
    c_Judge := He.cls_ok (c.fact 89 rfl),
    m_Judge := He.mkr_ok (c.fact 90 rfl),
    n_Judge_boxes := He.noat_ok (c.fact 91 rfl),
    n_Judge_functions := He.noat_ok (c.fact 92 rfl),
    n_Judge_number := He.noat_ok (c.fact 93 rfl),
    n_Judge_function := He.noat_ok (c.fact 94 rfl),
    n_Judge_code := He.noat_ok (c.fact 95 rfl),
    n_Judge_sure := He.noat_ok (c.fact 96 rfl),
    n_Judge_waiting := He.noat_ok (c.fact 97 rfl),
    mt_Judge_refuse := He.meth_ok (c.fact 98 rfl),
    mt_Judge_pieces := He.meth_ok (c.fact 99 rfl),
    mt_Judge_shapes := He.meth_ok (c.fact 100 rfl),
    mt_Judge_come := He.meth_ok (c.fact 101 rfl),
    mt_Judge_need := He.meth_ok (c.fact 102 rfl),
    mt_Judge_used := He.meth_ok (c.fact 103 rfl),
    mt_Judge_behind := He.meth_ok (c.fact 104 rfl),
    mt_Judge_taken := He.meth_ok (c.fact 105 rfl),
    mt_Judge_goals := He.meth_ok (c.fact 106 rfl),
    mt_Judge_run := He.meth_ok (c.fact 107 rfl),
    len := He.free_ok X G (c.fact 108 rfl),
    range := He.free_ok X G (c.fact 109 rfl),
    list := He.free_ok X G (c.fact 110 rfl),
    tuple := He.free_ok X G (c.fact 111 rfl),
    dict := He.free_ok X G (c.fact 112 rfl),
    sorted := He.free_ok X G (c.fact 113 rfl),
    int := He.free_ok X G (c.fact 114 rfl),
    str := He.free_ok X G (c.fact 115 rfl),
    isinstance := He.free_ok X G (c.fact 116 rfl),
    max := He.free_ok X G (c.fact 117 rfl),
    min := He.free_ok X G (c.fact 118 rfl),
    sum := He.free_ok X G (c.fact 119 rfl),
    bool := He.free_ok X G (c.fact 120 rfl),
    zip := He.free_ok X G (c.fact 121 rfl),
    enumerate := He.free_ok X G (c.fact 122 rfl),
    any := He.free_ok X G (c.fact 123 rfl),
    all := He.free_ok X G (c.fact 124 rfl),
    ValueError := He.free_ok X G (c.fact 125 rfl),
    super := He.free_ok X G (c.fact 126 rfl),
    g_MATH := He.glo_ok X G (c.fact 137 rfl),
    tup_MATH := tp 0 rfl,
    g_PURE := He.glo_ok X G (c.fact 139 rfl),
    tup_PURE := tp 1 rfl,
    g_SHARED := He.glo_ok X G (c.fact 140 rfl),
    tup_SHARED := tp 2 rfl,
    g_BY_LET := He.glo_ok X G (c.fact 141 rfl),
    tup_BY_LET := tp 3 rfl,
    g_BY_BLOCK := He.glo_ok X G (c.fact 142 rfl),
    tup_BY_BLOCK := tp 4 rfl,
    g_HEAD := He.glo_ok X G (c.fact 143 rfl),
    tup_HEAD := tp 5 rfl,
    g_GIVES := He.glo_ok X G (c.fact 150 rfl),
    tup_GIVES := tp 6 rfl,
    g_LASTS := He.glo_ok X G (c.fact 151 rfl),
    tup_LASTS := tp 7 rfl,
    g_ENTERS := He.glo_ok X G (c.fact 152 rfl),
    tup_ENTERS := tp 8 rfl,
    g_MAY_RAISE := He.glo_ok X G (c.fact 153 rfl),
    tup_MAY_RAISE := tp 9 rfl,
    F_is_integer := F_is_integer,
    b_is_integer := (F_is_integer.bindsN (ps := ["value"]) fun _ _ _ _ _ _ us hl => match us, hl with | [_], _ => rfl),
    F_is_number := F_is_number,
    b_is_number := (F_is_number.bindsN (ps := ["value", "low", "high"]) fun _ _ _ _ _ _ us hl => match us, hl with | [_, _, _], _ => rfl),
    F_is_tuple := F_is_tuple,
    b_is_tuple := (F_is_tuple.bindsN (ps := ["value", "size"]) fun _ _ _ _ _ _ us hl => match us, hl with | [_, _], _ => rfl),
    F_is_word_name := F_is_word_name,
    b_is_word_name := (F_is_word_name.bindsN (ps := ["value"]) fun _ _ _ _ _ _ us hl => match us, hl with | [_], _ => rfl),
    F_names_in := F_names_in,
    b_names_in := (F_names_in.bindsN (ps := ["marks", "item"]) fun _ _ _ _ _ _ us hl => match us, hl with | [_, _], _ => rfl),
    F_names_of_op := F_names_of_op,
    b_names_of_op := (F_names_of_op.bindsN (ps := ["op"]) fun _ _ _ _ _ _ us hl => match us, hl with | [_], _ => rfl),
    F_table_of := F_table_of,
    b_table_of := (F_table_of.bindsN (ps := ["units"]) fun _ _ _ _ _ _ us hl => match us, hl with | [_], _ => rfl),
    F_asked_of := F_asked_of,
    b_asked_of := (F_asked_of.bindsN (ps := ["instruction"]) fun _ _ _ _ _ _ us hl => match us, hl with | [_], _ => rfl),
    F_Linker___init__ := F_Linker___init__,
    b_Linker___init__ := (F_Linker___init__.bindsN (ps := ["self", "objects"]) fun _ _ _ _ _ _ us hl => match us, hl with | [_, _], _ => rfl),
    F_Linker_function := F_Linker_function,
    b_Linker_function := (F_Linker_function.bindsN (ps := ["self", "unit", "name"]) fun _ _ _ _ _ _ us hl => match us, hl with | [_, _, _], _ => rfl),
    F_Linker_number := F_Linker_number,
    b_Linker_number := (F_Linker_number.bindsN (ps := ["self", "unit", "name"]) fun _ _ _ _ _ _ us hl => match us, hl with | [_, _, _], _ => rfl),
    F_Linker_linked := F_Linker_linked,
    b_Linker_linked := (F_Linker_linked.bindsN (ps := ["self", "instruction"]) fun _ _ _ _ _ _ us hl => match us, hl with | [_, _], _ => rfl),
    F_Linker_run := F_Linker_run,
    b_Linker_run := (F_Linker_run.bindsN (ps := ["self", "entry"]) fun _ _ _ _ _ _ us hl => match us, hl with | [_, _], _ => rfl),
    F_linked := F_linked,
    b_linked := (F_linked.bindsN (ps := ["objects", "entry"]) fun _ _ _ _ _ _ us hl => match us, hl with | [_, _], _ => rfl),
    F_require := F_require,
    b_require := (F_require.bindsN (ps := ["condition"]) fun _ _ _ _ _ _ us hl => match us, hl with | [_], _ => rfl),
    F_folded := F_folded,
    b_folded := (F_folded.bindsN (ps := ["function", "block", "at"]) fun _ _ _ _ _ _ us hl => match us, hl with | [_, _, _], _ => rfl),
    F_is_change := F_is_change,
    b_is_change := (F_is_change.bindsN (ps := ["value"]) fun _ _ _ _ _ _ us hl => match us, hl with | [_], _ => rfl),
    F_changed_function := F_changed_function,
    b_changed_function := (F_changed_function.bindsN (ps := ["program", "change", "function"]) fun _ _ _ _ _ _ us hl => match us, hl with | [_, _, _], _ => rfl),
    F_changed := F_changed,
    b_changed := (F_changed.bindsN (ps := ["program", "change"]) fun _ _ _ _ _ _ us hl => match us, hl with | [_, _], _ => rfl),
    F_with_function := F_with_function,
    b_with_function := (F_with_function.bindsN (ps := ["program", "unit", "function"]) fun _ _ _ _ _ _ us hl => match us, hl with | [_, _, _], _ => rfl),
    F_Reader___init__ := F_Reader___init__,
    b_Reader___init__ := (F_Reader___init__.bindsN (ps := ["self", "row"]) fun _ _ _ _ _ _ us hl => match us, hl with | [_, _], _ => rfl),
    F_Reader_byte := F_Reader_byte,
    b_Reader_byte := (F_Reader_byte.bindsN (ps := ["self"]) fun _ _ _ _ _ _ us hl => match us, hl with | [_], _ => rfl),
    F_Reader_number := F_Reader_number,
    b_Reader_number := (F_Reader_number.bindsN (ps := ["self"]) fun _ _ _ _ _ _ us hl => match us, hl with | [_], _ => rfl),
    F_Reader_letter := F_Reader_letter,
    b_Reader_letter := (F_Reader_letter.bindsN (ps := ["self"]) fun _ _ _ _ _ _ us hl => match us, hl with | [_], _ => rfl),
    F_Reader_function := F_Reader_function,
    b_Reader_function := (F_Reader_function.bindsN (ps := ["self"]) fun _ _ _ _ _ _ us hl => match us, hl with | [_], _ => rfl),
    F_image_from := F_image_from,
    b_image_from := (F_image_from.bindsN (ps := ["row"]) fun _ _ _ _ _ _ us hl => match us, hl with | [_], _ => rfl),
    F_number_from := F_number_from,
    b_number_from := (F_number_from.bindsN (ps := ["text", "line"]) fun _ _ _ _ _ _ us hl => match us, hl with | [_, _], _ => rfl),
    F_Lines___init__ := F_Lines___init__,
    b_Lines___init__ := (F_Lines___init__.bindsN (ps := ["self", "lines"]) fun _ _ _ _ _ _ us hl => match us, hl with | [_, _], _ => rfl),
    F_Lines_words := F_Lines_words,
    b_Lines_words := (F_Lines_words.bindsN (ps := ["self", "first", "size"]) fun _ _ _ _ _ _ us hl => match us, hl with | [_, _, _], _ => rfl),
    F_Lines_function := F_Lines_function,
    b_Lines_function := (F_Lines_function.bindsN (ps := ["self"]) fun _ _ _ _ _ _ us hl => match us, hl with | [_], _ => rfl),
    F_image_from_lines := F_image_from_lines,
    b_image_from_lines := (F_image_from_lines.bindsN (ps := ["lines"]) fun _ _ _ _ _ _ us hl => match us, hl with | [_], _ => rfl),
    F_Judge___init__ := F_Judge___init__,
    b_Judge___init__ := (F_Judge___init__.bindsN (ps := ["self", "image", "number"]) fun _ _ _ _ _ _ us hl => match us, hl with | [_, _, _], _ => rfl),
    F_Judge_refuse := F_Judge_refuse,
    b_Judge_refuse := (F_Judge_refuse.bindsN (ps := ["self", "kind", "at"]) fun _ _ _ _ _ _ us hl => match us, hl with | [_, _, _], _ => rfl),
    F_Judge_pieces := F_Judge_pieces,
    b_Judge_pieces := (F_Judge_pieces.bindsN (ps := ["self", "at"]) fun _ _ _ _ _ _ us hl => match us, hl with | [_, _], _ => rfl),
    F_Judge_shapes := F_Judge_shapes,
    b_Judge_shapes := (F_Judge_shapes.bindsN (ps := ["self", "at"]) fun _ _ _ _ _ _ us hl => match us, hl with | [_, _], _ => rfl),
    F_Judge_come := F_Judge_come,
    b_Judge_come := (F_Judge_come.bindsN (ps := ["self", "at", "state"]) fun _ _ _ _ _ _ us hl => match us, hl with | [_, _, _], _ => rfl),
    F_Judge_need := F_Judge_need,
    b_Judge_need := (F_Judge_need.bindsN (ps := ["self", "at", "boxes", "state"]) fun _ _ _ _ _ _ us hl => match us, hl with | [_, _, _, _], _ => rfl),
    F_Judge_used := F_Judge_used,
    b_Judge_used := (F_Judge_used.bindsN (ps := ["self", "instruction"]) fun _ _ _ _ _ _ us hl => match us, hl with | [_, _], _ => rfl),
    F_Judge_behind := F_Judge_behind,
    b_Judge_behind := (F_Judge_behind.bindsN (ps := ["self", "at", "state"]) fun _ _ _ _ _ _ us hl => match us, hl with | [_, _, _], _ => rfl),
    F_Judge_taken := F_Judge_taken,
    b_Judge_taken := (F_Judge_taken.bindsN (ps := ["self", "instruction"]) fun _ _ _ _ _ _ us hl => match us, hl with | [_, _], _ => rfl),
    F_Judge_goals := F_Judge_goals,
    b_Judge_goals := (F_Judge_goals.bindsN (ps := ["self", "at", "state"]) fun _ _ _ _ _ _ us hl => match us, hl with | [_, _, _], _ => rfl),
    F_Judge_run := F_Judge_run,
    b_Judge_run := (F_Judge_run.bindsN (ps := ["self"]) fun _ _ _ _ _ _ us hl => match us, hl with | [_], _ => rfl),
    F_judge := F_judge,
    b_judge := (F_judge.bindsN (ps := ["image"]) fun _ _ _ _ _ _ us hl => match us, hl with | [_], _ => rfl),
    F__law_cell := F__law_cell,
    b__law_cell := (F__law_cell.bindsN (ps := ["script", "k"]) fun _ _ _ _ _ _ us hl => match us, hl with | [_, _], _ => rfl),
    F__law_numbers := F__law_numbers,
    b__law_numbers := (F__law_numbers.bindsN (ps := ["cell", "many"]) fun _ _ _ _ _ _ us hl => match us, hl with | [_, _], _ => rfl),
    F__law_pool := F__law_pool,
    b__law_pool := (F__law_pool.bindsN (ps := ["script"]) fun _ _ _ _ _ _ us hl => match us, hl with | [_], _ => rfl),
    F__law_draw := F__law_draw,
    b__law_draw := (F__law_draw.bindsN (ps := ["pool", "many"]) fun _ _ _ _ _ _ us hl => match us, hl with | [_, _], _ => rfl),
    F__law_kind := F__law_kind,
    b__law_kind := (F__law_kind.bindsN (ps := ["x"]) fun _ _ _ _ _ _ us hl => match us, hl with | [_], _ => rfl),
    F__law_equal := F__law_equal,
    b__law_equal := (F__law_equal.bindsN (ps := ["x", "due"]) fun _ _ _ _ _ _ us hl => match us, hl with | [_, _], _ => rfl),
    F__law_kinds_of := F__law_kinds_of,
    b__law_kinds_of := (F__law_kinds_of.bindsN (ps := ["e"]) fun _ _ _ _ _ _ us hl => match us, hl with | [_], _ => rfl),
    F__law_do := F__law_do,
    b__law_do := (F__law_do.bindsN (ps := ["way", "number"]) fun _ _ _ _ _ _ us hl => match us, hl with | [_, _], _ => rfl),
    F_law := F_law,
    b_law := (F_law.bindsN (ps := ["script"]) fun _ _ _ _ _ _ us hl => match us, hl with | [_], _ => rfl),
    LETTERS_shapes := e_LETTERS_shapes,
    LONGEST_NAME := e_LONGEST_NAME,
    MOST_WORD := e_MOST_WORD,
    MOST_NAME := e_MOST_NAME,
    MOST_PLACE := e_MOST_PLACE,
    MOST_BLOCKS := e_MOST_BLOCKS,
    MOST_LETS := e_MOST_LETS,
    MOST_ARGS := e_MOST_ARGS,
    MOST_FUNCTIONS := e_MOST_FUNCTIONS,
    MOST_UNITS := e_MOST_UNITS,
    BASE := e_BASE,
    MODULUS := e_MODULUS,
    MOST := e_MOST,
    LETTERS_image_bytes := e_LETTERS_image_bytes,
    DIGITS := e_DIGITS,
    FEWEST_BOXES := e_FEWEST_BOXES,
    MOST_BOXES := e_MOST_BOXES }⟩
/-! the own part of the head: tables, written tuples, defs that say super(), exception classes with an own __init__ -/
def tsL : List He.Tab := [(fun K => He.ga K "OPS", ["word", "copy", "math", "not", "make", "part", "tag", "array", "at", "put", "size", "closure", "caught", "call", "apply", "tell", "spawn", "rest", "tick"]), (fun K => He.ga K "PIECES", ["word", "move", "math", "not", "tag", "part", "at", "put", "size", "array", "keep", "fetch", "pass", "param", "caught", "make", "closure", "call", "apply", "answer", "tell", "spawn", "rest", "tick", "handle", "to", "fork", "give", "raise"])]
abbrev SupV : Type := Option (Str × Str × Arguments × FuncBody × Scope × Addr × Value × Value × Addr)
def iA (K : PySem.W.Frag) (C : Str) : Addr := He.ma K (He.ga K C) "__init__"
def supObs (K : PySem.W.Frag) (C : Str) : SupV := match K.lookup (iA K C) with
  | some ⟨_, _, .func fd, _⟩ => some (fd.name, fd.qualname, fd.params, fd.body, fd.scope, fd.globals, fd.defaults, fd.kwdefaults, fd.builtins)
  | _ => none
def supL : List (Str × Str × Stmt) := [("BadImage", "BadImage.__init__", s_BadImage___init__), ("Refused", "Refused.__init__", s_Refused___init__), ("BadLine", "BadLine.__init__", s_BadLine___init__)]
def supVal (p : Str × Str × Stmt) : SupV := some ("__init__", p.2.1, defArgs p.2.2, .stmts (defBody p.2.2), defScope p.2.2, mainGlobals, .none, .none, builtinsNs)
def cellB (K : PySem.W.Frag) (cc C : Addr) : Bool := match K.lookup cc with
  | some ⟨_, _, .cell (some (.ref D)), _⟩ => decide (D = C)
  | _ => false
def fileB (K : PySem.W.Frag) (cda : Addr) (file : Str) : Bool := match K.lookup cda with
  | some ⟨_, _, .fields vs, _⟩ => (match (vs[2]? : Option Value) with
    | some (Value.str f _) => file == f
    | _ => false)
  | _ => false
def cloB (K : PySem.W.Frag) (C : Str) (qual file : Str) : Bool := match K.lookup (iA K C) with
  | some ⟨_, _, .func fd, _⟩ => (match fd.closure, fd.code, fd.annotations with
    | [(n, cc)], .ref cda, _ => decide (n = "__class__") && (cellB K cc (He.ga K C) && (PySem.W.codeIn K (.ref cda) qual && fileB K cda file))
    | _, _, _ => false)
  | _ => false
def oexB (K : PySem.W.Frag) (C : Addr) : Bool := match K.lookup C with
  | some ⟨.type "type", _, .cls cd, sl⟩ => (match cd.mro, sl.toList with
    | .ref C' :: bm, [_, _, _, _, some (.builtin n), _] => decide (C' = C) && (decide (n = "ValueError.__new__") && (!cd.hasDel && (cd.hasDict && PySem.HandSPX.refsVE bm)))
    | _, _ => false)
  | _ => false
def oex2B (K : PySem.W.Frag) (C : Addr) : Bool := oexB K C && (decide (PySem.W.findIn K (.ref C) "__setattr__" = some (some (.builtin "object.__setattr__"))) && (decide (PySem.W.subIn K (.ref C) (.type "BaseException") = some true) &&
  (decide (PySem.W.typeIn K (.ref C) = some (.type "type")) && PySem.W.keepIn K (.ref C))))
def supB (P : Program) (K : PySem.W.Frag) (p : Str × Str × Stmt) : Bool := oex2B K (He.ga K p.1) && (cloB K p.1 p.2.1 P.main.file && (decide (PySem.W.mroIn K (He.ga K p.1) (.ref (He.ga K p.1)) = some true) && (decide (PySem.W.ks_superIn K (He.ga K p.1) (He.ga K p.1) "__init__" = some (some (.builtin "ValueError.__init__"))) &&
  (decide (PySem.W.subIn K (.ref (He.ga K p.1)) (.type "ValueError") = some true) && (decide (PySem.W.findIn K (.ref (He.ga K p.1)) "__init__" = some (some (.ref (iA K p.1)))) && (decide (PySem.W.typeIn K (.ref (iA K p.1)) = some (.type "function")) && xfB K (He.ga K p.1)))))))
def ecB (K : PySem.W.Frag) (D : Addr) : Bool := xfB K D && (decide (PySem.W.findIn K (.ref D) "__class__" = some (some (.builtin "object.__class__"))) && (decide (PySem.W.specialIn K (.builtin "object.__class__") "__get__" = some (some (.builtin "getset_descriptor.__get__"))) &&
  (decide (PySem.W.takesIn K (.builtin "object.__class__") = some true) && decide (PySem.W.mroIn K D (.type "object") = some true))))
def allX : List Str := ["BadImage", "BadLine", "NoFunction", "NotTaken", "NoUnit", "OtherShape", "Refused", "Twice"]
def kitB (K : PySem.W.Frag) : Bool := allX.all fun D => ecB K (He.ga K D) && (allX.all fun C => decide (PySem.W.kitOne K (.ref (He.ga K D)) (.ref (He.ga K C)) = some (decide (D = C)))) && decide (PySem.W.kitOne K (.ref (He.ga K D)) (.type "ValueError") = some true)
def noFB (K : PySem.W.Frag) : Bool := [(("BadImage" : Str), ("at" : Str)), ("BadLine", "line"), ("Refused", "kind"), ("Refused", "function"), ("Refused", "at")].all fun p => decide (PySem.W.findIn K (.ref (He.ga K p.1)) p.2 = some none)
def exB (P : Program) (K : PySem.W.Frag) : Bool := (tpL.all fun p => He.tupB K p.1 p.2) && (He.valsB K (He.ga K "OPS") [("tick", .str "")] && (He.valsB K (He.ga K "PIECES") [("tick", .str ""), ("give", .str "b")] && (supL.all (supB P K) && (kitB K && (noFB K && decide (PySem.W.nsIn K cStatics "thirdparty.any" = some none))))))
abbrev AlS : Type := He.AlT × Bool × List SupV
def obsS (P : Program) (n : Nat) (g : Addr → Option Obj) : AlS := (He.obsT faL fnL tsL (He.frG g (List.range n)), exB P (He.frG g (List.range n)), supL.map fun p => supObs (He.frG g (List.range n)) p.1)
structure SaysS (P : Program) (w : World) (K : PySem.W.Frag) : Prop where
  t : He.SaysT faL fnL tsL w K
  x : exB P K = true
  s : (supL.map fun p => supObs K p.1) = supL.map supVal
abbrev RR : PySem.W.OpenRow := PySem.W.OpenLaw.row PySem.Challenge.rw_wholedown_k71_errors_of_the_lower_half
def hk : PySem.W.Hook where
  α := AlS
  obs := fun s => obsS RR.prog 880 s.heap.get?
  val := fun w => (He.valT fnL tsL w, true, supL.map supVal)
  says := fun w h => ∃ K : PySem.W.Frag, K.In h ∧ SaysS RR.prog w K
  of := fun _ _ e => ⟨_, He.frG_in, congrArg (fun z : AlS => z.1) e, congrArg (fun z : AlS => z.2.1) e, congrArg (fun z : AlS => z.2.2) e⟩
  keeps := fun _ _ _ ⟨K, hK, c⟩ k => ⟨K, PySem.W.Frag.In.keeps hK k, c⟩
def ob (s : PySem.W.SharedT) : AlS := obsS RR.prog 880 (HandSHeadRun.getT s)
theorem ob_eq (s : PySem.W.SharedT) : ob s = hk.obs s.abs := by
  have e : HandSHeadRun.getT s = s.abs.heap.get? := funext (HandSHeadRun.getT_eq s)
  show obsS RR.prog 880 (HandSHeadRun.getT s) = obsS RR.prog 880 s.abs.heap.get?
  rw [e]
def looseN : List Str := (["is_integer", "is_number", "is_tuple", "is_between", "are_numbers", "is_ascending", "is_word_name", "is_piece", "has_form", "names_in", "names_of_op", "names_of_end", "with_names", "op_with", "end_with", "with_blocks", "goals_of", "is_let", "is_block", "is_function"] : List Str) ++ (["given_names", "ways_of", "sure_names", "names_behind", "uses_are_sure", "has_tick", "ticks_bound", "fits_within", "table_of", "calls_fit", "lets_of", "is_unit", "is_middle", "asked_of", "linked", "calculated", "require", "op_by_name", "word_by_name", "use_count"] : List Str) ++ (["with_let", "with_block", "folded", "copied", "dropped", "names_ahead", "shared", "parted", "known", "threaded", "joined", "lost", "without_block", "direct", "renamed", "inlined", "lifted", "name_of", "with_params", "is_change"] : List Str) ++ (["changed_function", "by_block", "changed", "with_function", "kinds_in_order", "image_from", "number_from", "piece_from", "instruction_from", "image_from_lines", "judge", "_law_cell", "_law_numbers", "_law_pool", "_law_draw", "_law_kind", "_law_equal", "_law_kinds_of", "_law_do", "LowError"] : List Str) ++ (["NotTaken", "NoUnit", "NoFunction", "Twice", "OtherShape", "BadImage", "Refused", "BadLine", "Linker", "Reader", "Lines", "Judge", "LETTERS_shapes", "LONGEST_NAME", "MOST_WORD", "MOST_NAME", "MOST_PLACE", "MOST_BLOCKS", "MOST_LETS", "MOST_ARGS"] : List Str) ++ (["MOST_FUNCTIONS", "MOST_UNITS", "MATH", "OPS", "ENDS", "BASE", "PURE", "SHARED", "BY_LET", "BY_BLOCK", "HEAD", "MODULUS", "PIECES", "MOST", "LETTERS_image_bytes", "DIGITS", "FEWEST_BOXES", "MOST_BOXES", "GIVES", "LASTS"] : List Str) ++ (["ENTERS", "MAY_RAISE"] : List Str)
end K71

set_option Elab.async false
set_option linter.all false
set_option maxRecDepth 100000
set_option maxHeartbeats 0
namespace K71
open PySem PySem.Spec PyProof.Rows L2
abbrev QV : Program := PySem.W.view RR.prog [134]
noncomputable abbrev fin (w : World) (os : OsState) : Option PySem.W.SharedT := HandSHeadRun.endF (HandSHeadRun.stepQ (HandSHeadRun.denQ HandSHeadRun.tabQ) RR.prog w) 20000 RR.prog w os
abbrev wF (w : World) : World := w.withFollow "special-get-raises" false
abbrev wT (w : World) : World := w.withFollow "special-get-raises" true
noncomputable abbrev obA (w : World) (s : PySem.W.SharedT) := (HandSHeadRun.looksF RR.prog (PySem.W.boot_heap w.params) s.abs, HandSHeadRun.seenQ QV looseN (importedModules RR.prog.main.body) (fun s => PySem.W.xlAt QV [] s && PySem.W.recOk RR.toRowW.records s) s.abs)
abbrev obB (s : PySem.W.SharedT) := exB RR.prog (He.frG (HandSHeadRun.getT s) (List.range 880))
abbrev obC (s : PySem.W.SharedT) := supL.map fun p => supObs (He.frG (HandSHeadRun.getT s) (List.range 880)) p.1
abbrev obD (s : PySem.W.SharedT) := He.obsT faL fnL tsL (He.frG (HandSHeadRun.getT s) (List.range 880))
theorem runAF (w : World) (os : OsState) : (fin (wF w) os).map (fun s => (obA (wF w) s, obB s, obC s)) = some ((true, PySem.W.openGood QV looseN), true, supL.map supVal) := by kernel_rfl
theorem runAT (w : World) (os : OsState) : (fin (wT w) os).map (fun s => (obA (wT w) s, obB s, obC s)) = some ((true, PySem.W.openGood QV looseN), true, supL.map supVal) := by kernel_rfl
theorem runDF (w : World) (os : OsState) : (fin (wF w) os).map obD = some (He.valT fnL tsL (wF w)) := by kernel_rfl
theorem runDT (w : World) (os : OsState) : (fin (wT w) os).map obD = some (He.valT fnL tsL (wT w)) := by kernel_rfl
end K71

set_option Elab.async false
set_option linter.all false
set_option maxRecDepth 100000
set_option maxHeartbeats 0
namespace K71
open PySem PySem.Spec PyProof.Rows L2
theorem map_comb {S A B C D E : Type} {o : Option S} {f1 : S → A} {f2 : S → B} {fb : S → D} {fc : S → E} {fd : S → C} {a : A} {b : B} {c : C} {d : D} {e : E} (h1 : o.map (fun s => ((f1 s, f2 s), fb s, fc s)) = some ((a, b), d, e)) (h2 : o.map fd = some c) :
    o.map (fun s => (f1 s, f2 s, fd s, fb s, fc s)) = some (a, b, c, d, e) := by
  cases o with
  | none => cases h1
  | some s => simp at h1 h2 ⊢; obtain ⟨⟨x1, x2⟩, x3, x4⟩ := h1; exact ⟨x1, x2, h2, x3, x4⟩
theorem run_of {w : World} (hA : ∀ os, (fin w os).map (fun s => (obA w s, obB s, obC s)) = some ((true, PySem.W.openGood QV looseN), true, supL.map supVal)) (hD : ∀ os, (fin w os).map obD = some (He.valT fnL tsL w)) : HandSHeadRun.RunEq RR QV hk ob 20000 looseN w :=
  fun os => map_comb (hA os) (hD os)
theorem run (w : World) : HandSHeadRun.RunEq RR (PySem.W.view RR.prog [134]) hk ob 20000 looseN w :=
  PySem.W.byRow2 "special-get-raises" (P := fun w => HandSHeadRun.RunEq RR (PySem.W.view RR.prog [134]) hk ob 20000 looseN w) (fun w => run_of (runAF w) (runDF w)) (fun w => run_of (runAT w) (runDT w)) w
end K71

set_option Elab.async false
set_option linter.all false
set_option maxRecDepth 100000
set_option maxHeartbeats 4000000
/-! isinstance of a caught error of an own class that has a dict; defs that are handed a caught error -/
namespace KS
open PySem PySem.W PySem.Spec PySem.Calls PyProof.Rows L2
section
variable {prog : Program} {w : World} {A : Around} {E : Value → Shared → Prop} {s : Shared} {K : Frag} {x D : Addr} {ox : Obj}
theorem findObj_dataS {C : Addr} {od : Option Obj} {name : Str} {a g : Value} (hc : (clsIn K C).isSome = true) (ha : findIn K (.ref C) name = some (some a)) (hg : specialIn K a "__get__" = some (some g)) (ht : takesIn K a = some true) : findObj K C od name = some (.bind g a) := by
  obtain ⟨cd, hc⟩ := Option.isSome_iff_exists.mp hc
  unfold findObj
  rw [hc, Option.bind_some, ha, Option.bind_some]
  simp [hg, ht]
theorem kin_classS {od : Option Obj} {Q : Option Value → Shared → Prop} (hga : findIn K (.ref D) "__getattribute__" = some (some (.builtin "BaseException.__getattribute__"))) (hgt : findIn K (.ref D) "__getattr__" = some none) (hsub : subIn K (.ref D) (.type "BaseException") = some true)
    (hdct : hasDictIn K D = true) (ha : findIn K (.ref D) "__class__" = some (some (.builtin "object.__class__")))
    (hn : specialIn K (.builtin "object.__class__") "__get__" = some (some (.builtin "getset_descriptor.__get__"))) (htk : takesIn K (.builtin "object.__class__") = some true) (hm : mroIn K D (.type "object") = some true)
    (X : K.In s.heap) (I : InstAt s.heap x ox D od) (h : Q (some (.ref D)) { s with toks := s.toks + 1 }) : wpAny (model prog w) A (getAttr? (.ref x) "__class__") Q E s := by
  have hf : findObj K D od "__class__" = some (.bind (.builtin "getset_descriptor.__get__") (.builtin "object.__class__")) := findObj_dataS (by obtain ⟨cd, hc, _⟩ := any_some hdct; rw [hc]; rfl) ha hn htk
  obtain ⟨hp, g, d, t, os⟩ := s
  have L0 := I.type (M := model prog w)
  have L1 := looks_findIn (M := model prog w) X hga
  have L2 := looks_findIn (M := model prog w) X hgt
  have L3 := looks_find (M := model prog w) X I hf
  have sub : Looks (model prog w) hp (isInstance (.ref x) (.type "BaseException")) true := L0.andThen (looks_subIn X hsub)
  have hx0 : (false && onTheHeap (Value.builtin "BaseException.__getattribute__")) = false := rfl
  have hx2 : (Value.builtin "BaseException.__getattribute__" == Value.builtin "object.__getattribute__") = false := by decide +kernel
  have hx1 : (onTheHeap (Value.ref D) && Value.builtin "BaseException.__getattribute__" == Value.builtin "object.__getattribute__") = false := by rw [hx2]; rfl
  unfold getAttr? getAttrBy? getAttrBy
  refine wpAny_bind (wpAny_mkText (wpAny_bind (wpAny_attempt (wpAny_holding (wpAny_bind (L0.at (wpAny_bind (L1.at ?_))))))))
  show wpAny _ _ (if (onTheHeap (Value.ref D) && Value.builtin "BaseException.__getattribute__" == Value.builtin "object.__getattribute__") = true then _ else _) _ _ _
  rw [hx1, if_neg Bool.false_ne_true]
  unfold getAttrByItsOwn hookBefore
  refine wpAny_bind ?_
  rw [if_pos (show onTheHeap (Value.ref D) = true from rfl)]
  refine L2.at ?_
  refine wpAny_bind (wpAny_attempt (wpAny_holding ?_))
  unfold callGetattribute
  rw [hx0, if_neg Bool.false_ne_true]
  unfold boundAndCalled
  rw [PySem.F.excAttr_ValueError.ga.bind (.ref x)]
  refine wpAny_bind (wpAny_pure ?_)
  show wpAny _ _ (call (.builtin "BaseException.__getattribute__") [.ref x, .str "__class__" t]) _ _ _
  refine wpAny_call (codeAny_call_builtin PySem.F.excAttr_ValueError.ga.plain PySem.F.entry_bexc_ga ?_)
  refine @check_slot (model prog w) _ _ ⟨hp, g, d, t + 1, os⟩ "BaseException.__getattribute__" "BaseException" "__getattribute__" (.ref x) [.str "__class__" t] [] _ (by decide +kernel) (by decide +kernel) sub (PySem.F.args_bexc_ga (.ref x) (.str "__class__" t)) ?_
  unfold Builtin.«object.__getattribute__»
  refine wpAny_bind (wpAny_of_eq (a := ((Value.ref x : Value), [Value.str "__class__" t])) (by first | rfl | (simp only [slotArgs]; rfl)) ?_)
  refine wpAny_bind (wpAny_pure (wpAny_bind (L0.at (wpAny_bind (L3.at ?_)))))
  show wpAny _ _ (holding [Value.builtin "object.__class__"] (call (.builtin "getset_descriptor.__get__") [.builtin "object.__class__", .ref x, .ref D]) >>= ret) _ _ _
  refine wpAny_bind (wpAny_holding (wpAny_call (class_get (s := ⟨hp, g, d, t + 1, os⟩) (ox := ox) (od := od) X I hm ?_)))
  refine wpAny_pure ?_
  show wpAny _ _ (handedOut (.ref D)) _ _ _
  rw [handedOut_of (v := .ref D) rfl]
  first
    | exact wpAny_pure (wpAny_pure h)
    | exact wpAny_pure h
    | exact wpAny_pure (wpAny_bind (wpAny_pure (wpAny_pure h)))
theorem kitx_excS {od : Option Obj} (hga : findIn K (.ref D) "__getattribute__" = some (some (.builtin "BaseException.__getattribute__"))) (hgt : findIn K (.ref D) "__getattr__" = some none) (hsub : subIn K (.ref D) (.type "BaseException") = some true) (hdct : hasDictIn K D = true) (ha : findIn K (.ref D) "__class__" = some (some (.builtin "object.__class__")))
    (hn : specialIn K (.builtin "object.__class__") "__get__" = some (some (.builtin "getset_descriptor.__get__"))) (htk : takesIn K (.builtin "object.__class__") = some true) (hm : mroIn K D (.type "object") = some true) :
    KitX K (.ref x) (.ref D) (fun h => InstAt h x ox D od) where
  ty := fun _ _ _ I => I.type
  it := fun _ _ X _ => by
    obtain ⟨cdD, hcD, _⟩ := any_some hdct
    unfold clsIn at hcD
    split at hcD
    · rename_i c' d' cd' sl' ho
      intro A' Q' E' s' k q
      unfold isType loadHead
      exact wpAny_bind (wpAny_loadPart (k _ _ (X _ _ ho)) (wpAny_pure q))
    · cases hcD
  ne := fun h tp dd its n sl X htp => by
    obtain ⟨cdD, hcD, _⟩ := any_some hdct
    refine Bool.eq_false_iff.mpr fun q => ?_
    have e : D = tp := Value.ref.inj (beq_iff_eq.mp q)
    subst e
    unfold clsIn at hcD
    split at hcD
    · rename_i c' d' cd' sl' ho
      have z := (X _ _ ho).symm.trans htp
      cases z
    · cases hcD
  ca := fun X I k => kin_classS hga hgt hsub hdct ha hn htk hm X I k
end
/-- the error at a: its object is pinned; its dict, if any, stands in the heap -/
def ErrAt (a D : Addr) (d : Option Addr) (oe : Obj) (H : Hp) : Prop := Zc (.ref D) d oe ∧ (∃ vs, oe.data = .fields vs) ∧ ∀ dd, d = some dd → ∃ fs, H dd = some (.xd fs)
theorem call_isP {X : Cx} {a D : Addr} {d : Option Addr} {oe : Obj} (C : ExcC X.K D) (hp : (a, oe) ∈ X.pn) : CallR X (.builtin "isinstance") (fun xs H Q => ErrAt a D d oe H ∧ rIsE X.K D a xs H Q) := by
  intro pins s σ H xs us Q I r h
  obtain ⟨⟨hz, hf, hd⟩, c, cv, b, rfl, hcv, e, q⟩ := h
  cases r with
  | cons rx rr =>
    cases rr with
    | cons rt rr =>
      cases rr
      cases rx
      have ec := hcv _ rt
      subst ec
      obtain ⟨hget, _⟩ := I.pin (a, oe) (List.mem_append.mpr (.inl hp))
      obtain ⟨vs, hv⟩ := hf
      obtain ⟨od, J⟩ : ∃ od, PySem.W.InstAt s.heap a oe D od := by
        obtain ⟨oc, odx, oda, osl⟩ := oe
        obtain ⟨h1, h2⟩ := hz
        dsimp only at h1 h2 hv
        subst h1 h2 hv
        cases odx with
        | none => exact ⟨none, hget, rfl, rfl, trivial⟩
        | some dd =>
          obtain ⟨fs, hfs⟩ := hd dd rfl
          obtain ⟨o, ho⟩ := objOk_get (I.hok dd _ hfs)
          exact ⟨some o, hget, rfl, rfl, ho⟩
      exact PySem.W.kia_one (kitx_excS C.hg C.hk C.hs C.hd C.ha C.hn C.ht C.hm) I.kIn J e (fun z => nomatch z) fun tk => ⟨.bl b, H, I.kept (t' := tk) fun _ _ z => z, rfl, q⟩
end KS

set_option Elab.async false
set_option linter.all false
set_option maxRecDepth 100000
set_option maxHeartbeats 4000000
/-! defs that are handed the error that a suite holds -/
namespace KS
open PySem PySem.Spec PyProof.Rows L2 L2H
structure FnP (P : Program) (w : World) (K : PySem.W.Frag) (mg : Str → Option Value) (base : Heap) (CX : CXT) (k : Nat) (f : Addr) (fd : FuncData) (ps : List Str) (sp : (Addr × Obj) → Sp) : Prop where
  len : ∀ p vs H Q E, sp p vs H Q E → vs.length = ps.length
  run : ∀ (A : Around) (outer : List Env) (s : Shared) (H : Hp) (args : Args) (us : List Value) (vs : List V) (Q : VK) (E : XK) (p : Addr × Obj), RoomH k A → PinOk outer H s p → Env0 P w K mg base A outer s H → BindsTo s fd args (ps.zip us) → Vals vs us → sp p vs H Q E →
    codeAny (model P w) A (.call (.ref f) args) (CR CX outer P w H s Q E) s
theorem _root_.L2.FunD.okP {P : Program} {w : World} {K : PySem.W.Frag} {mg : Str → Option Value} {base : Heap} {x qual : Str} {params : Arguments} {body : List Stmt} {scope : Scope} {dvs : List V} {kws : List (Str × V)} {f : Addr} {fd : FuncData} {CX : CXT} {N ps : List Str} {k : Nat} {sp : (Addr × Obj) → Sp}
    (F : FunD K x qual params body scope dvs kws f fd) (S : FnScope N ps scope) (len : ∀ p vs H Q E, sp p vs H Q E → vs.length = ps.length)
    (hbody : ∀ (cdv : Value) (A : Around) (outer : List Env) (s : Shared) (H : Hp) (vs : List V) (Q : VK) (E : XK) (p : Addr × Obj), RoomH k (A.deeper (envOfC qual scope s.heap.objs.size f cdv)) → sp p vs H Q E →
      ∃ t, PSs (cxH CX P w K mg base N qual scope f cdv A outer s H E p) body t ∧ t { nx := fun _ H' => Q .non H', rt := Q } (L2.start N vs) H) : FnP P w K mg base CX (k + 1) f fd ps sp := by
  obtain ⟨oc, od, dV, kV, doc, pm, an, cdv, ct, osl, rfl, lk, hcd, _, _⟩ := F.ex
  refine ⟨len, fun A outer s H args us vs Q E p hr hpin e0 hb r hsp => ?_⟩
  have hl := len _ _ _ _ _ hsp
  have KX : K.In s.heap := e0.mod.kin.keeps fun b o e => (e0.bs b o e).1
  have lim : s.heap.NoLimit := e0.mod.nolimit.keeps fun b o e => (e0.bs b o e).1
  have hkind : ∀ y ∈ ps.zip us, scope.names.lookup y.1 = some .local ∨ (scope.names.lookup y.1 = some .cell ∧ ((cellsFrom (s.heap.objs.size + 1) scope.names []).lookup y.1).isSome = true) := fun ⟨n, v⟩ hy => by
    rcases S.par n (List.of_mem_zip hy).1 with q | q
    · exact .inl q
    · exact .inr ⟨q, PySem.W.cellsFrom_some _ _ _ (.inl q)⟩
  refine codeAny_call_function hr.depth (KX _ _ lk) rfl S.co S.gen rfl (PySem.W.codeRec_of KX hcd) (hb _ _ _ _ ?_)
  refine wpAny_newFunctionEnv_cells S.kind hkind fun env he s1 x => ?_
  subst he
  refine ⟨lim.keeps x.toInCall.keep, codeAny_func ?_⟩
  obtain ⟨t, ht, hq⟩ := hbody cdv A outer s H vs Q E p (hr.deeper _) hsp
  have I : Inv (cxH CX P w K mg base N qual scope f cdv A outer s H E p) [] (L2.start N vs) H s1 := inv_startH S hpin e0 hl r x
  refine wpAny_mono (ht.run [] s1 (L2.start N vs) H _ I hq) (fun fl s' hs => ?_) fun e s' hs => hs
  have fin : ∀ {σ' : L2.St} {H' : Hp} {v : V} {u : Value}, Inv (cxH CX P w K mg base N qual scope f cdv A outer s H E p) [] σ' H' s' → RelV v u → Q v H' → CE outer P w H s Q u s' :=
    fun {σ' H' v u} J rv q => ⟨v, H', J.os, J.bare, J.base, J.hok, rv, q⟩
  cases fl with
  | ret u =>
    obtain ⟨v, σ', H', J, rv, q⟩ := hs
    exact fin J rv q
  | next =>
    obtain ⟨σ', H', J, q⟩ := hs
    exact fin (v := V.non) (u := Value.none) J rfl q
  | brk =>
    obtain ⟨_, _, _, q⟩ := hs
    exact False.elim q
  | cont =>
    obtain ⟨_, _, _, q⟩ := hs
    exact False.elim q
section
variable {X : Cx} {CX : CXT} {k : Nat} {f C : Addr} {fd : FuncData} {ps : List Str} {sp : (Addr × Obj) → Sp} {p : Addr × Obj} {x : Str} {q pos : Pos} {e : Expr} {es : List Expr} {t : TA}
theorem run_fnP {E : XK} {pins : List (Addr × Obj)} {σ : L2.St} {H : Hp} {s : Shared} {Q : VK} {us : List Value} {vs : List V} (F : FnP X.prog X.w X.K X.mg X.base CX k f fd ps sp) (hr : RoomH k X.A) (hp : p ∈ X.pn) (hb : Binds X.K fd ps []) (hx : Passes CX X E)
    (I : Inv X pins σ H s) (r : Vals vs us) (h : sp p vs H Q E) : wpAny (model X.prog X.w) X.A (call (.ref f) us) (EP X pins σ Q) X.xe s := by
  have hl : us.length = ps.length := by rw [← r.length]; exact F.len _ _ _ _ _ h
  have b := hb s us I.kIn (by rw [List.append_nil]; exact hl)
  rw [List.append_nil] at b
  have P1 := I.pin p (List.mem_append_left _ hp)
  have hpin : PinOk X.stack H s p := ⟨P1.1, P1.2.1, fun hm => (List.mem_cons.mp (I.stkSub p.1 hm)).elim P1.2.2.1 P1.2.2.2.1, P1.2.2.2.2⟩
  refine wpAny_call (codeAny_mono (F.run X.A X.stack s H ⟨us, []⟩ us vs Q E p hr hpin I.env0 b r h) fun r s' hq => ?_)
  cases r with
  | error e => exact hx pins σ H s e s' I hq
  | ok fl =>
    cases fl with
    | ret u => exact I.after hq
    | next => exact False.elim hq
    | brk => exact False.elim hq
    | cont => exact False.elim hq
theorem pe_callP {E : XK} (F : FnP X.prog X.w X.K X.mg X.base CX k f fd ps sp) (hr : RoomH k X.A) (hp : p ∈ X.pn) (hg : Gl X x) (hm : X.mg x = some (.ref f)) (hk : PySem.W.keepIn X.K (.ref f) = true) (hb : Binds X.K fd ps []) (hx : Passes CX X E)
    (ha : PA X (e :: es) t) (hdb : (x == ("__debug__" : Str)) = false := by decide) (he : starEach (e :: es) X.env = (false, eval e X.env) :: starEach es X.env := by rfl) (hpl : (backTo pos (starEach es X.env)).any (·.1) = false := by rfl) :
    PE X (.Call (.Name x q) (e :: es) [] pos) (tCall (sp p) [] E t) := by
  refine ⟨fun pins s σ H Q I h => ?_⟩
  refine wpAny_Call_Name_kw (ld_glob I hg hm ?_ hdb)
  refine PySem.W.callWith_K (h₀ := X.base) I.ok.mod.kin hk (thn (ha.run pos pins s σ H _ I h) fun us s1 ⟨vs, H1, I1, r, q⟩ => ⟨I1.kIn, ?_⟩) he hpl
  exact run_fnP F hr hp hb hx I1 r (by simpa using q)
end
end KS

set_option Elab.async false
set_option linter.all false
set_option maxRecDepth 100000
set_option maxHeartbeats 4000000
/-! k71: zip(text, tuple), enumerate(tuple) -/
namespace R71
open PySem PySem.Spec PyProof.Rows L2
/-- the signs of x and the tuple at b, in new pairs -/
def ItzST (K : PySem.W.Frag) (x : Str) (b : Addr) : It :=
  ⟨fun i H => i < x.cps.size ∧ ∃ ys : List V, SqT K H b ys ∧ i < ys.length,
    fun i H v H' => ∃ T y, ∃ c : Nat, v = .ref T ∧ H T = none ∧ H' = upd H T (.tup [.str ⟨#[c]⟩, y]) ∧ x.cps[i]? = some c ∧ ∀ ys, SqT K H b ys → ys[i]? = some y,
    fun i H => ∃ ys : List V, SqT K H b ys ∧ i = min x.cps.size ys.length⟩
theorem turn_zipST {P : Program} {w : World} {K : PySem.W.Frag} {elts : List Expr} {kk : Nat} {tpos : Pos} {x : Str} {t : Tok} {b z TI TO i1 i2 : Addr} (D : ZipSep2 z TI TO i1 i2 [i1] [i2, b]) (hbi : b ≠ i2) :
    Turn P w K (.Tuple elts kk tpos) (ItzST K x b) [z, TI, TO, i1, i2] z (fun i h => IsZip h z TI TO .none ∧ IsTupOf2 h TI (.ref i1) (.ref i2) ∧ (∃ x y, IsTupOf2 h TO x y) ∧ h.IsStrIter i1 (strIterType x) x t i ∧ h.IsTupleIter i2 b i) where
  mem := by simp
  obj := fun i h st c hc => by
    obtain ⟨hz, hTI, ⟨x, y, hTO⟩, ⟨o1, e1, _, d1⟩, ⟨o2, e2, _, d2⟩⟩ := st
    have e' : c = z ∨ c = TI ∨ c = TO ∨ c = i1 ∨ c = i2 := by simpa using hc
    rcases e' with q | q | q | q | q
    · rw [q]; exact ⟨_, hz, fun v q => nomatch q⟩
    · rw [q]; exact ⟨_, hTI, fun v q => nomatch q⟩
    · rw [q]; exact ⟨_, hTO, fun v q => nomatch q⟩
    · rw [q]; exact ⟨o1, e1, fun v q => by rw [d1] at q; cases q⟩
    · rw [q]; exact ⟨o2, e2, fun v q => by rw [d2] at q; cases q⟩
  keep := fun i h h' st k => by
    obtain ⟨hz, hTI, ⟨x, y, hTO⟩, ⟨o1, e1, r1⟩, h2⟩ := st
    exact ⟨k z (by simp) _ hz, k TI (by simp) _ hTI, ⟨x, y, k TO (by simp) _ hTO⟩, ⟨o1, k i1 (by simp) _ e1, r1⟩, h2.at fun o q => k i2 (by simp) o q⟩
  item := by
    intro X hP hw hK hc i pins s σ H E I hf st hg
    subst hP hw hK
    obtain ⟨hz, hTI, ⟨x0, y0, hTO⟩, h1, h2⟩ := st
    obtain ⟨hx, ys, hqy, hy⟩ := hg
    obtain ⟨its2, rv2, p2, _⟩ := I.tuple hqy
    have l2 := rv2.length
    have hzl : z < s.heap.objs.size := Heap.lt_size hz
    have i1l : i1 < s.heap.objs.size := by obtain ⟨_, e1, _⟩ := h1; exact Heap.lt_size e1
    have i2l : i2 < s.heap.objs.size := by obtain ⟨_, e1, _⟩ := h2; exact Heap.lt_size e1
    have TOl : TO < s.heap.objs.size := Heap.lt_size hTO
    have TIl : TI < s.heap.objs.size := Heap.lt_size hTI
    have hh1 : X.A.in1.handled = none := I.ok.hd hc
    have D1 : Draws X.prog X.w X.A.in1 i1 [i1] x.cps.size _ _ := Draws.text hh1 i1 x t
    have D2 : Draws X.prog X.w X.A.in1 i2 [i2, b] its2.toArray.size _ _ := Draws.tuple hh1 i2 b hbi its2.toArray
    refine wpAny_pyNext_zipD2_item D D1 D2 hz hTI hTO h1 ⟨h2, p2⟩ hx (by simp; omega) fun u v h' tk hu hv z' TO' h1' h2' hT hsz hk => ?_
    obtain ⟨c, tu, hcx, rfl⟩ := hu
    have hil : i < its2.length := by omega
    have hv' : v = its2[i] := by simpa [hil] using hv.symm
    obtain ⟨y, hyy, ry⟩ : ∃ y, ys[i]? = some y ∧ RelV y v := by
      obtain ⟨u', hu', ru⟩ := rv2.get (List.getElem?_eq_getElem hy)
      rw [List.getElem?_eq_getElem hil] at hu'
      cases hu'
      exact ⟨ys[i], List.getElem?_eq_getElem hy, by rw [hv']; exact ru⟩
    refine ⟨_, rfl, wpAny_letOwnedTupleGo_zip (s := { s with heap := h', toks := tk }) z' fun h'' z'' sb => ?_⟩
    have hT2 : h''.get? s.heap.objs.size = some { cls := .type "tuple", data := .seq #[.str ⟨#[c]⟩ tu, v] } := (sb.2 _ (Nat.ne_of_gt hzl)).trans hT
    have new : ObjOk X.prog X.w (upd H s.heap.objs.size (.tup [.str ⟨#[c]⟩, y])) h'' s.heap.objs.size (.tup [.str ⟨#[c]⟩, y]) :=
      ⟨by show 2 ≤ sizeLine; decide, [.str ⟨#[c]⟩ tu, v], .cons ⟨_, rfl⟩ (.cons ry .nil), ⟨_, hT2, rfl, _, rfl⟩⟩
    have I1 : Inv X pins σ (upd H s.heap.objs.size (.tup [.str ⟨#[c]⟩, y])) { s with heap := h'', toks := tk } :=
      I.turnedNew (t' := tk) (ch := [z, TI, TO, i1, i2]) (fun c o hb q => (sb.2 c (fun q' => hb (by simp [q']))).trans (hk c o (fun q' => hb (by simp [q'])) (fun q' => hb (by simp [q'])) (fun q' => hb (by simp [q'])) (fun q' => hb (by simp [q'])) q)) hf (Nat.le_refl _) new
    refine ⟨.ref s.heap.objs.size, _, I1, rfl, ⟨_, y, c, rfl, I.hok.fresh (Nat.le_refl _), rfl, hcx, fun l hl => by rw [I.tuple_inj hl hqy]; exact hyy⟩, ⟨z'', ?_, ⟨_, _, (sb.2 _ D.TOz).trans TO'⟩, ?_, ?_⟩, fun c hcm => ?_⟩
    · exact (sb.2 _ D.TIz).trans (hk _ _ D.TIz D.TITO D.TIi1 D.TIi2 hTI)
    · obtain ⟨o, e, r⟩ := h1'
      exact ⟨o, (sb.2 _ D.zi1.symm).trans e, r⟩
    · exact h2'.1.at fun o q => (sb.2 _ D.zi2.symm).trans q
    · have hlt : c < s.heap.objs.size := by
        have e' : c = z ∨ c = TI ∨ c = TO ∨ c = i1 ∨ c = i2 := by simpa using hcm
        rcases e' with q | q | q | q | q <;> rw [q] <;> assumption
      rw [upd_ne (Nat.ne_of_lt hlt)]
      exact (hf c hcm).1
  done := by
    intro X hP hw hK hc i pins s σ H E I hf st hg
    subst hP hw hK
    obtain ⟨hz, hTI, ⟨x0, y0, hTO⟩, h1, h2⟩ := st
    obtain ⟨ys, hqy, hend⟩ := hg
    obtain ⟨its2, rv2, p2, _⟩ := I.tuple hqy
    have l2 := rv2.length
    have hh1 : X.A.in1.handled = none := I.ok.hd hc
    have D1 : Draws X.prog X.w X.A.in1 i1 [i1] x.cps.size _ _ := Draws.text hh1 i1 x t
    have D2 : Draws X.prog X.w X.A.in1 i2 [i2, b] its2.toArray.size _ _ := Draws.tuple hh1 i2 b hbi its2.toArray
    exact wpAny_pyNext_zipD2_end D D1 D2 hz hTI hTO h1 ⟨h2, p2⟩ (by omega) (by simp; omega) (by simp; omega) fun h' tk hk => ⟨rfl, I.turnedL (t' := tk) (ch := [z, TI, TO, i1, i2]) (fun c o hb q =>
      hk c o (fun q' => hb (by simp [q'])) (fun q' => hb (by simp [q'])) (fun q' => hb (by simp [q'])) (fun q' => hb (by simp [q'])) q) hf⟩
  self := fun A i s Q E st h => wpAny_pyIter_zip st.1 h
def iZipST (K : PySem.W.Frag) (ta : TA) : TI := fun σ H R => ta σ H fun vs H1 => ∃ x b ys, vs = [.str x, .ref b] ∧ SqT K H1 b ys ∧ R (ItzST K x b) H1
theorem pi_zipST {X : Cx} {e e2 : Expr} {ta : TA} {p pos tpos : Pos} {elts : List Expr} {kk : Nat} (hg : Gl X "zip") (hm : X.mg "zip" = none) (ha : PA X [e, e2] ta)
    (hs : starEach [e, e2] X.env = (false, eval e X.env) :: starEach [e2] X.env := by rfl) (hpl : (backTo pos (starEach [e2] X.env)).any (·.1) = false := by rfl) :
    PI X (.Tuple elts kk tpos) (.Call (.Name "zip" p) [e, e2] [] pos) (iZipST X.K ta) := by
  refine ⟨fun pins s σ H R I h => ?_⟩
  refine Call_ (ld_blt I hg hm PyProof.Rows.boot_zip (PyProof.Rows.callWith_type1 (thn (ha.run pos pins s σ H _ I h) fun us s1 ⟨vs, H1, I1, r1, q1⟩ => ?_) hs hpl))
  obtain ⟨x, b, ys, ex, hqy, q⟩ := q1
  subst ex
  cases r1 with
  | cons r rr =>
    cases rr with
    | cons r' rr =>
      cases rr
      obtain ⟨t, rfl⟩ := r
      cases r'
      have fresh5 : ∀ c, c ∈ [s1.heap.objs.size + 4, s1.heap.objs.size + 2, s1.heap.objs.size + 3, s1.heap.objs.size, s1.heap.objs.size + 1] → FpOk X pins H1 c := fun c hcm => by
        have e' : c = s1.heap.objs.size + 4 ∨ c = s1.heap.objs.size + 2 ∨ c = s1.heap.objs.size + 3 ∨ c = s1.heap.objs.size ∨ c = s1.heap.objs.size + 1 := by simpa using hcm
        have hle : s1.heap.objs.size ≤ c := by
          rcases e' with z | z | z | z | z
          · rw [z]; exact Nat.le_add_right _ _
          · rw [z]; exact Nat.le_add_right _ _
          · rw [z]; exact Nat.le_add_right _ _
          · rw [z]; exact Nat.le_refl _
          · rw [z]; exact Nat.le_add_right _ _
        exact I1.fpOk hle (I1.hok.fresh hle)
      obtain ⟨its2, rv2, p2, _⟩ := I1.tuple hqy
      have hbl : b < s1.heap.objs.size := by obtain ⟨_, e, _⟩ := id p2; exact Heap.lt_size e
      refine zip_begins2 (begins_text x t) (begins_tuple b its2.toArray) trivial p2 fun h' hz hTI hTO h1 h2 hsz hk => wpAny_pyIter_zip hz ?_
      have I2 : Inv X pins σ H1 { s1 with heap := h' } := I1.kept (t' := s1.toks) hk
      refine ⟨s1.heap.objs.size + 4, [s1.heap.objs.size + 4, s1.heap.objs.size + 2, s1.heap.objs.size + 3, s1.heap.objs.size, s1.heap.objs.size + 1], _, _, H1, rfl, I2, turn_zipST (t := t) ?_ (Nat.ne_of_lt (Nat.lt_succ_of_lt hbl)), ⟨hz, hTI, ⟨_, _, hTO⟩, ⟨_, h1, rfl, rfl⟩, ⟨_, h2, rfl, rfl⟩⟩, fresh5, q⟩
      have n0 := Nat.ne_of_lt hbl
      have nz : ∀ k, b ≠ s1.heap.objs.size + k := fun k => Nat.ne_of_lt (Nat.lt_of_lt_of_le hbl (Nat.le_add_right _ _))
      constructor <;> simp <;> first | exact (nz _).symm | exact n0.symm
theorem walk_zipST {K : PySem.W.Frag} {x : Str} {b : Addr} {ys : List V} {n : Nat} (hn : n = min x.cps.size ys.length) : Walk (ItzST K x b) n (fun H => SqT K H b ys) (YPair (fun i => x.cps[i]?.map fun c => .str ⟨#[c]⟩) (fun i => ys[i]?)) := by
  subst hn
  refine ⟨fun i _ hi q => ⟨by omega, ys, q, by omega⟩, fun _ q => ⟨ys, q, rfl⟩, fun i H v H' _ q y => ?_⟩
  obtain ⟨T, y, c, h1, h2, h3, h4, h5⟩ := y
  exact ⟨T, .str ⟨#[c]⟩, y, h1, h2, h3, by simp [h4], h5 ys q⟩

/-! enumerate(tuple) -/
def IteT (K : PySem.W.Frag) (a : Addr) : It :=
  ⟨fun i H => ∃ (xs : List V), SqT K H a xs ∧ i < xs.length, fun i H v H' => ∃ T x, v = .ref T ∧ H T = none ∧ H' = upd H T (.tup [.int (i : Nat), x]) ∧ ∀ xs, SqT K H a xs → xs[i]? = some x, fun i H => ∃ xs : List V, SqT K H a xs ∧ i = xs.length⟩
theorem turn_enumT {P : Program} {w : World} {K : PySem.W.Frag} {elts : List Expr} {kk : Nat} {tpos : Pos} (a e it : Addr) :
    Turn P w K (.Tuple elts kk tpos) (IteT K a) [e, it] e (fun i h => (∃ old, IsEnum h e it ((i : Nat) : Int) old) ∧ h.IsTupleIter it a i ∧ e ≠ it ∧ a ≠ it ∧ a ≠ e) where
  mem := by simp
  obj := fun i h st b hb => by
    obtain ⟨⟨old, he⟩, ⟨o, ho, hc, hd⟩, _⟩ := st
    have e' : b = e ∨ b = it := by simpa using hb
    rcases e' with z | z
    · rw [z]; exact ⟨_, he, fun v q => nomatch q⟩
    · rw [z]; exact ⟨o, ho, fun v q => by rw [hd] at q; cases q⟩
  keep := fun i h h' st k => let ⟨⟨old, he⟩, hi, hne⟩ := st; ⟨⟨old, k e (by simp) _ he⟩, hi.at fun o q => k it (by simp) o q, hne⟩
  item := by
    intro X hP hw hK hc i pins s σ H E I hf st hg
    subst hP hw hK
    obtain ⟨⟨old, he⟩, hit, hne, hai, hae⟩ := st
    obtain ⟨xs, hq, hx⟩ := hg
    obtain ⟨its, rv, p, hz⟩ := I.tuple hq
    have hl := rv.length
    have hil0 : i < its.length := by omega
    obtain ⟨u, hu, ru⟩ := rv.get (List.getElem?_eq_getElem hx)
    have hel : e < s.heap.objs.size := Heap.lt_size he
    have hil : it < s.heap.objs.size := by obtain ⟨_, q, _⟩ := hit; exact Heap.lt_size q
    have hh1 : X.A.in1.handled = none := I.ok.hd hc
    have D2 : Draws X.prog X.w X.A.in1 it [it, a] its.toArray.size _ _ := Draws.tuple hh1 it a hai its.toArray
    refine wpAny_pyNext_enum_itemC D2 he ⟨hit, p⟩ (by simp; omega) hne (by simp; exact ⟨hne, fun q => hae q.symm⟩) fun v h' tk hv ho hst hT hsz hk => ?_
    have hv' : v = u := by
      have : its[i]? = some v := by simpa using hv
      rw [hu] at this; exact (Option.some.inj this).symm
    subst hv'
    have ho2 : IsEnumOut h' e it ((i : Int) + 1) v s.heap.objs.size := ho
    refine ⟨_, rfl, wpAny_letOwnedTupleGo_enum (s := { s with heap := h', toks := tk + 1 }) ho2 fun h'' he' sb => ?_⟩
    have hT2 : h''.get? s.heap.objs.size = some { cls := .type "tuple", data := .seq #[.int i tk, v] } := (sb.2 _ (Nat.ne_of_gt hel)).trans hT
    have new : ObjOk X.prog X.w (upd H s.heap.objs.size (.tup [.int (i : Nat), xs[i]])) h'' s.heap.objs.size (.tup [.int (i : Nat), xs[i]]) :=
      ⟨by show 2 ≤ sizeLine; decide, [.int i tk, v], .cons ⟨_, rfl⟩ (.cons ru .nil), ⟨_, hT2, rfl, _, rfl⟩⟩
    have I1 : Inv X pins σ (upd H s.heap.objs.size (.tup [.int (i : Nat), xs[i]])) { s with heap := h'', toks := tk + 1 } :=
      I.turnedNew (ch := [e, it]) (fun b ob hb q => (sb.2 b (fun z => hb (by simp [z]))).trans (hk b ob (fun z => hb (by simp [z])) (fun z => hb (by simp [z])) q)) hf (Nat.le_refl _) new
    refine ⟨.ref s.heap.objs.size, _, I1, rfl, ⟨_, xs[i], rfl, I.hok.fresh (Nat.le_refl _), rfl, fun ys hy => by rw [I.tuple_inj hy hq]; exact List.getElem?_eq_getElem hx⟩, ⟨⟨v, ?_⟩, hst.1.at fun o q => (sb.2 it (Ne.symm hne)).trans q, hne, hai, hae⟩, fun b hb => ?_⟩
    · have e1 : ((i + 1 : Nat) : Int) = (i : Int) + 1 := by omega
      rw [e1]; exact he'
    · have hb' : b < s.heap.objs.size := by
        have e' : b = e ∨ b = it := by simpa using hb
        rcases e' with z | z
        · rw [z]; exact hel
        · rw [z]; exact hil
      rw [upd_ne (Nat.ne_of_lt hb')]
      exact (hf b hb).1
  done := by
    intro X hP hw hK hc i pins s σ H E I hf st hg
    subst hP hw hK
    obtain ⟨⟨old, he⟩, hit, hne, hai, hae⟩ := st
    obtain ⟨xs, hq, hx⟩ := hg
    obtain ⟨its, rv, p, hz⟩ := I.tuple hq
    have hl := rv.length
    have hst : its.toArray.size = i := by simp; omega
    have hh1 : X.A.in1.handled = none := I.ok.hd hc
    have D2 : Draws X.prog X.w X.A.in1 it [it, a] its.toArray.size _ _ := Draws.tuple hh1 it a hai its.toArray
    subst hx
    have he2 : IsEnum s.heap e it ((its.toArray.size : Nat) : Int) old := by rw [hst]; exact he
    refine wpAny_pyNext_enum_endD D2 he2 ⟨by rw [hst]; exact hit, p⟩ fun h' eb => ⟨rfl, I.turnedL (t' := s.toks) (ch := [e, it]) (fun b o hb q => eb b o (fun q' => hb (by simp [q'])) q) hf⟩
  self := fun A i s Q E st h => let ⟨⟨_, he⟩, _⟩ := st; wpAny_pyIter_enum he h
def iEnumT (K : PySem.W.Frag) (ta : TA) : TI := fun σ H R => ta σ H fun vs H1 => ∃ a xs, vs = [.ref a] ∧ SqT K H1 a xs ∧ R (IteT K a) H1
theorem meets_enumerate_newT (l : Addr) (items : Array Value) (n : Nat) (dct : Option Addr) (sl : Array (Option Value)) :
    Meets (Builtin.«enumerate.__new__» ⟨[.type "enumerate", .ref l], []⟩) (fun _ R s => s.heap.get? l = some { cls := .type "tuple", dict := dct, data := .seq items n, slots := sl } ∧
      R (.ok (.ret (.ref (s.heap.push { cls := .type "tuple_iterator", data := .fields #[.ref l, .int 0 0] }).objs.size))) { s with heap := (s.heap.push { cls := .type "tuple_iterator", data := .fields #[.ref l, .int 0 0] }).push { cls := .type "enumerate", data := .fields #[.none, .bool false, .ref s.heap.objs.size, rawInt 0, .none, .none] } }) :=
  .of_wp fun prog w A R s h => by
    obtain ⟨hp, g, d, tk, os⟩ := s; obtain ⟨hl, h⟩ := h
    have hsub := sub_enumerate
    have hL : Heap.IsTuple (Shared.heap ⟨hp, g, d, tk, os⟩) l items := ⟨_, hl, rfl, n, rfl⟩
    wp_walk using wpAny_loadPart' hl
    refine wpAny_stack_any fun st => wpAny_pure ?_
    split
    · rename_i c _ _ _ _ _
      cases (c == Value.type "enumerate")
      · wp_walk using wpAny_loadPart' hl, wpAny_pyIter_tuple hL
        exact ⟨_, rfl, h⟩
      · wp_walk using wpAny_loadPart' hl, wpAny_pyIter_tuple hL
        exact ⟨_, rfl, h⟩
    · wp_walk using wpAny_loadPart' hl, wpAny_pyIter_tuple hL
      exact ⟨_, rfl, h⟩
theorem pi_enumT {X : Cx} {e : Expr} {ta : TA} {p pos tpos : Pos} {elts : List Expr} {kk : Nat} (hg : Gl X "enumerate") (hm : X.mg "enumerate" = none) (ha : PA X [e] ta) (hs : starEach [e] X.env = [(false, eval e X.env)] := by rfl) :
    PI X (.Tuple elts kk tpos) (.Call (.Name "enumerate" p) [e] [] pos) (iEnumT X.K ta) := by
  refine ⟨fun pins s σ H R I h => ?_⟩
  refine Call_ (ld_blt I hg hm boot_enumerate (PyProof.Rows.callWith_type1 (thn (ha.run pos pins s σ H _ I h) fun us s1 ⟨vs, H1, I1, r1, q1⟩ => ?_) hs rfl))
  obtain ⟨a, xs, ex, hq, q⟩ := q1
  subst ex
  cases r1 with
  | cons r rr =>
    cases rr
    cases r
    obtain ⟨its, rv, p', hz⟩ := I1.tuple hq
    have hal : a < s1.heap.objs.size := by obtain ⟨_, e, _⟩ := id p'; exact Heap.lt_size e
    obtain ⟨⟨cc, dct, dt, sl⟩, ho, hcc, n, hdd⟩ := id p'
    replace hcc : cc = .type "tuple" := hcc
    replace hdd : dt = .seq its.toArray n := hdd
    subst hcc hdd
    have hz1 : (s1.heap.push { cls := .type "tuple_iterator", data := .fields #[.ref a, .int 0 0] }).objs.size = s1.heap.objs.size + 1 := Heap.size_push ..
    refine callType_new F.called_enumerate (by decide) (F.typeCall_enumerate_1 _) (F.newCall_enumerate_1 _) (fun obj => F.args_object_init_2 obj _) F.entry_enumerate_new
      (meets_enumerate_newT a its.toArray n dct sl) ⟨ho, ?_⟩
    show _ ∧ _
    rw [hz1]
    have he : IsEnum ((s1.heap.push { cls := .type "tuple_iterator", data := .fields #[.ref a, .int 0 0] }).push { cls := .type "enumerate", data := .fields #[.none, .bool false, .ref s1.heap.objs.size, rawInt 0, .none, .none] }) (s1.heap.objs.size + 1) s1.heap.objs.size 0 .none := by
      have := Heap.get?_push_size (s1.heap.push { cls := .type "tuple_iterator", data := .fields #[.ref a, .int 0 0] }) (o := { cls := .type "enumerate", data := .fields #[.none, .bool false, .ref s1.heap.objs.size, rawInt 0, .none, .none] }) rfl
      rw [hz1] at this; exact this
    refine ⟨⟨_, he, rfl⟩, wpAny_pyIter_enum he ?_⟩
    have I2 : Inv X pins σ H1 { s1 with heap := (s1.heap.push { cls := .type "tuple_iterator", data := .fields #[.ref a, .int 0 0] }).push { cls := .type "enumerate", data := .fields #[.none, .bool false, .ref s1.heap.objs.size, rawInt 0, .none, .none] } } :=
      I1.kept (t' := s1.toks) fun b o q => Heap.get?_push_of_some _ (Heap.get?_push_of_some _ q)
    refine ⟨s1.heap.objs.size + 1, [s1.heap.objs.size + 1, s1.heap.objs.size], _, _, H1, rfl, I2, turn_enumT a (s1.heap.objs.size + 1) s1.heap.objs.size, ⟨⟨.none, he⟩, ⟨_, Heap.get?_push_of_some _ (Heap.get?_push_size _ rfl), rfl, rfl⟩, Nat.succ_ne_self _, Nat.ne_of_lt hal, Nat.ne_of_lt (Nat.lt_succ_of_lt hal)⟩, fun b hb => ?_, q⟩
    have e' : b = s1.heap.objs.size + 1 ∨ b = s1.heap.objs.size := by simpa using hb
    have hle : s1.heap.objs.size ≤ b := by
      rcases e' with z | z
      · rw [z]; exact Nat.le_add_right _ _
      · rw [z]; exact Nat.le_refl _
    exact I1.fpOk hle (I1.hok.fresh hle)
theorem walk_enumT {K : PySem.W.Frag} {a : Addr} {xs : List V} : Walk (IteT K a) xs.length (fun H => SqT K H a xs) (YPair (fun i => some (.int (i : Nat))) (fun i => xs[i]?)) := by
  refine ⟨fun i _ hi q => ⟨xs, q, hi⟩, fun _ q => ⟨xs, q, rfl⟩, fun i H v H' _ q y => ?_⟩
  obtain ⟨T, x, h1, h2, h3, h4⟩ := y
  exact ⟨T, .int (i : Nat), x, h1, h2, h3, rfl, h4 xs q⟩
end R71

set_option Elab.async false
set_option linter.all false
set_option maxRecDepth 100000
set_option maxHeartbeats 4000000
/-! k71: calls of methods and makers that may raise; a *= b -/
namespace R71
open PySem PySem.Spec PyProof.Rows L2
section
variable {X : Cx} {CX : CXT} {k : Nat} {f C : Addr} {fd : FuncData} {ps : List Str} {sp : Sp} {E : L2.St → XK} {x m : Str} {p pos apos : Pos} {e o : Expr} {es : List Expr} {ta : TE} {t : TA}
def tMethS (C : Addr) (m : Str) (sp : Sp) (E : L2.St → XK) (ta : TE) (t : TA) : TE := fun σ H Q => ta σ H fun x H1 => ∃ a dx fs, x = .ref a ∧ H1 a = some (.ins C dx fs) ∧ fs.lookup m = none ∧ t σ H1 fun vs H2 => sp (x :: vs) H2 Q (E σ)
theorem pe_methS {pl : Sem Bool} (he : PE X o ta) (c : Cls X.K C) (hm : Meth X.K C m f) (F : FnOk X.prog X.w X.K X.mg X.base CX k f fd ps sp) (hr : Room k X.A) (hb : Binds X.K fd ps []) (hx : ∀ σ, PassesAt CX X σ (E σ)) (ha : PA X (e :: es) t)
    (hst : starEach (e :: es) X.env = (false, eval e X.env) :: starEach es X.env := by rfl) (hpl : (backTo pos (starEach es X.env)).any (·.1) = false := by rfl)
    (ht : eval (.Call (.Attribute o m apos) (e :: es) [] pos) X.env = (do
      let ov ← eval o X.env
      standAt apos.atName
      let (f, first) ← holding [ov] (getMethod ov m pl)
      callWith pos f first (backTo pos (starEach (e :: es) X.env)) (backToKw pos (keywordEach [] X.env))) := by rfl) :
    PE X (.Call (.Attribute o m apos) (e :: es) [] pos) (tMethS C m sp E ta t) := by
  refine ⟨fun pins s σ H Q I h => ?_⟩
  refine PySem.W.methodCall_KW (pl := pl) (thn (he.run pins s σ H _ I h) fun u s1 ⟨x, H1, I1, rx, a, dx, fs, ex, ea, l, q⟩ => ?_) ht
  subst ex
  obtain rfl : u = Value.ref a := rx
  refine getmeth_ok I1 ea c hm l ?_
  refine PySem.W.callWith_K (first := [.ref a]) (h₀ := X.base) I.ok.mod.kin hm.kp (thn (ha.run pos pins s1 σ H1 _ I1 q) fun us s2 ⟨vs, H2, I2, r, q2⟩ => ⟨I2.kIn, ?_⟩) hst hpl
  exact run_fnS (us := .ref a :: us) (vs := .ref a :: vs) F hr hb (hx σ) I2 (.cons rfl r) q2
theorem pe_methS0 {pl : Sem Bool} (he : PE X o ta) (c : Cls X.K C) (hm : Meth X.K C m f) (F : FnOk X.prog X.w X.K X.mg X.base CX k f fd ps sp) (hr : Room k X.A) (hb : Binds X.K fd ps []) (hx : ∀ σ, PassesAt CX X σ (E σ))
    (ht : eval (.Call (.Attribute o m apos) [] [] pos) X.env = (do
      let ov ← eval o X.env
      standAt apos.atName
      let (f, first) ← holding [ov] (getMethod ov m pl)
      callWith pos f first (backTo pos (starEach [] X.env)) (backToKw pos (keywordEach [] X.env))) := by rfl) :
    PE X (.Call (.Attribute o m apos) [] [] pos) (tMethS C m sp E ta tNil) := by
  refine ⟨fun pins s σ H Q I h => ?_⟩
  refine PySem.W.methodCall_KW (pl := pl) (thn (he.run pins s σ H _ I h) fun u s1 ⟨x, H1, I1, rx, a, dx, fs, ex, ea, l, q⟩ => ?_) ht
  subst ex
  obtain rfl : u = Value.ref a := rx
  refine getmeth_ok I1 ea c hm l ?_
  exact PySem.W.callWith_K0 (first := [.ref a]) I1.kIn hm.kp (run_fnS (us := [.ref a]) (vs := [.ref a]) F hr hb (hx σ) I1 (.cons rfl .nil) q)
def tMakeS (C : Addr) (sp : Sp) (E : L2.St → XK) (t : TA) : TE := fun σ H Q => t σ H fun vs H1 => ∀ x dx, H1 x = none → H1 dx = none → dx ≠ x → sp (.ref x :: vs) (upd (upd H1 dx (.own x)) x (.ins C dx [])) (fun v H2 => v = .non ∧ Q (.ref x) H2) (E σ)
theorem run_makeS {pins : List (Addr × Obj)} {σ : L2.St} {H : Hp} {s : Shared} {Q : VK} {us : List Value} {vs : List V} (M : Mk X.K C f) (F : FnOk X.prog X.w X.K X.mg X.base CX k f fd ps sp) (hr : Room (k + 1) X.A) (hb : Binds X.K fd ps [])
    (hx : PassesAt CX X σ (E σ)) (I : Inv X pins σ H s) (r : Vals vs us)
    (h : ∀ x dx, H x = none → H dx = none → dx ≠ x → sp (.ref x :: vs) (upd (upd H dx (.own x)) x (.ins C dx [])) (fun v H2 => v = .non ∧ Q (.ref x) H2) (E σ)) :
    wpAny (model X.prog X.w) X.A (call (.ref C) us) (EP X pins σ Q) X.xe s := by
  have hq := h (s.heap.objs.size + 1) s.heap.objs.size (I.hok.fresh (Nat.le_succ _)) (I.hok.fresh (Nat.le_refl _)) (Nat.ne_of_lt (Nat.lt_succ_self _))
  have J := Inv.made (C := C) I
  have r2 : Vals (V.ref (s.heap.objs.size + 1) :: vs) (Value.ref (s.heap.objs.size + 1) :: us) := .cons rfl r
  have hl : (Value.ref (s.heap.objs.size + 1) :: us).length = ps.length := by rw [← r2.length]; exact F.len _ _ _ _ hq
  have hb2 := hb _ (Value.ref (s.heap.objs.size + 1) :: us) J.kIn (by rw [List.append_nil]; exact hl)
  rw [List.append_nil] at hb2
  refine wpAny_call (make_map (f := f) I.kIn M.makes M.init (beq_iff_eq.mp M.fn) (codeAny_mono (F.run _ X.stack _ _ ⟨Value.ref (s.heap.objs.size + 1) :: us, []⟩ (Value.ref (s.heap.objs.size + 1) :: us) _ _ (E σ) (hr.make C us [])
    (J.env0.make C us []) hb2 r2 hq) fun r s' hq' => ?_))
  cases r with
  | error e => exact hx pins _ _ e s' J hq'
  | ok fl =>
    cases fl with
    | ret u =>
      obtain ⟨v, H', I3, rv, ev, q3⟩ := J.after hq'
      subst ev
      exact ⟨rv, ⟨V.ref (s.heap.objs.size + 1), H', I3, rfl, q3⟩⟩
    | next => exact False.elim hq'
    | brk => exact False.elim hq'
    | cont => exact False.elim hq'
theorem pe_makeS (M : Mk X.K C f) (F : FnOk X.prog X.w X.K X.mg X.base CX k f fd ps sp) (hr : Room (k + 1) X.A) (hg : Gl X x) (hm : X.mg x = some (.ref C)) (hb : Binds X.K fd ps []) (hx : ∀ σ, PassesAt CX X σ (E σ))
    (ha : PA X (e :: es) t) (hdb : (x == ("__debug__" : Str)) = false := by decide) (he : starEach (e :: es) X.env = (false, eval e X.env) :: starEach es X.env := by rfl) (hpl : (backTo pos (starEach es X.env)).any (·.1) = false := by rfl) :
    PE X (.Call (.Name x p) (e :: es) [] pos) (tMakeS C sp E t) := by
  refine ⟨fun pins s σ H Q I h => ?_⟩
  refine wpAny_Call_Name_kw (ld_glob I hg hm ?_ hdb)
  refine PySem.W.callWith_K (h₀ := X.base) I.ok.mod.kin M.kp (thn (ha.run pos pins s σ H _ I h) fun us s1 ⟨vs, H1, I1, r, q⟩ => ⟨I1.kIn, ?_⟩) he hpl
  exact run_makeS M F hr hb (hx σ) I1 r q
/-- a call whose arguments do not come to an end -/
theorem pe_callN {v : Value} (hg : Gl X x) (hm : X.mg x = some v) (hk : PySem.W.keepIn X.K v = true)
    (ha : PA X (e :: es) t) (hdb : (x == ("__debug__" : Str)) = false := by decide) (he : starEach (e :: es) X.env = (false, eval e X.env) :: starEach es X.env := by rfl) (hpl : (backTo pos (starEach es X.env)).any (·.1) = false := by rfl) :
    PE X (.Call (.Name x p) (e :: es) [] pos) (fun σ H Q => t σ H fun _ _ => False) := by
  refine ⟨fun pins s σ H Q I h => ?_⟩
  refine wpAny_Call_Name_kw (ld_glob I hg hm ?_ hdb)
  exact PySem.W.callWith_K (h₀ := X.base) I.ok.mod.kin hk (thn (ha.run pos pins s σ H _ I h) fun us s1 ⟨vs, H1, I1, r, q⟩ => ⟨I1.kIn, q.elim⟩) he hpl
end
theorem ip_mul {X : Cx} : PIp X .Mult (fun x y H Q => ∃ i j, x = .int i ∧ y = .int j ∧ IntMulOk i j ∧ Q (.int (i * j)) H) := by
  intro pins s σ H x y v u Q I r1 r2 h
  obtain ⟨i, j, e1, e2, hm, q⟩ := h
  subst e1; subst e2
  obtain ⟨t, rfl⟩ := r1
  obtain ⟨t', rfl⟩ := r2
  exact imul_int ⟨.int _, H, I.tok _, ⟨_, rfl⟩, q⟩ hm
end R71

set_option Elab.async false
set_option linter.all false
set_option maxRecDepth 100000
set_option maxHeartbeats 4000000
/-! k71: {(a, b): c for .. for ..} -/
namespace R71
open PySem PySem.Spec PyProof.Rows L2
theorem d_dictSetP {X : Cx} {pins : List (Addr × Obj)} {σ : L2.St} {H H' : Hp} {s : Shared} {E : Value → Shared → Prop} {D : Addr} {y v : V} {u r : Value} {Q : Unit → Shared → Prop} (hu : X.A.units + 1 < cLine) (I : Inv X pins σ H s) (g : DPut H D y v H')
    (ry : RelV y u) (rv : RelV v r) (h : ∀ s', Inv X pins σ H' s' → Q () s') : wpAny (model X.prog X.w) X.A (dictSet D u r) Q E s := by
  rcases g with ⟨kvs, k, e, ey, l, eH⟩ | ⟨kvs, k, b, e, ey, eb, l, eH⟩
  · subst ey eH
    exact d_dictSet I e l ry rv h
  · subst ey eH
    cases (show u = Value.ref b from ry)
    obtain ⟨z, hd, xs, rel, dd⟩ := dt_of I.hok e
    have hz : xs.length ≤ sizeLine := by rw [← Paired.length rel]; exact z
    have hl : (putK kvs k v).length ≤ sizeLine := by have := length_putK kvs k v; omega
    refine wpAny_dictSet_heap (hsz := hz) (show (tupleKind (mixKind X.prog X.w)).room X.A from Nat.lt_of_succ_lt hu) (key_of I.hok eb) dd fun h' dd' hs => h _ ?_
    obtain ⟨q, es, ep, hq, h2, h3, h4, _, h5⟩ := dd'
    refine d_write I (by rw [e]; exact True.intro) hs ⟨q, hq⟩ ⟨hl, hd, _, (rel.put k eb rv).keeps fun c ys ec => ?_, q, es, ep, hq, h2, h3, h4, h5⟩
    rw [upd_ne (ne_of ec e (fun z => nomatch z))]
    exact ec
theorem dcTurn2_out (kx vx t0 i0 t1 i1 : Expr) (ifs0 ifs1 : List Expr) (scope : Scope) (pos : Pos) (it : Value) (D : Addr) (env : Env) :
    compTurn (.DictComp kx vx [⟨t0, i0, ifs0, 0⟩, ⟨t1, i1, ifs1, 0⟩] scope pos) 0 it (.ref D) env = (do
      standAt i0.pos
      match ← pyNext it with
      | none => pure (.done .next)
      | some v =>
        letOwnedTupleGo t0 it v
        assign t0 env v
        let mut ok := true
        for c in ifs0 do
          if ok then ok ← isTrue c env (eval c env)
        if ok then
          let x ← eval i1 env
          standAt i1.pos
          let x ← foldedSetIterable i1 env x
          let _ ← runOwn (.compStart (.DictComp kx vx [⟨t0, i0, ifs0, 0⟩, ⟨t1, i1, ifs1, 0⟩] scope pos) 1 (← holding [x] (pyIter x)) (.ref D) env) env
        again (.compLoop (.DictComp kx vx [⟨t0, i0, ifs0, 0⟩, ⟨t1, i1, ifs1, 0⟩] scope pos) 0 it (.ref D) env)) := by rfl
theorem dcTurn2_in (kx vx t0 i0 t1 i1 : Expr) (ifs0 ifs1 : List Expr) (scope : Scope) (pos : Pos) (it : Value) (D : Addr) (env : Env) :
    compTurn (.DictComp kx vx [⟨t0, i0, ifs0, 0⟩, ⟨t1, i1, ifs1, 0⟩] scope pos) 1 it (.ref D) env = (do
      standAt i1.pos
      match ← pyNext it with
      | none => pure (.done .next)
      | some v =>
        letOwnedTupleGo t1 it v
        assign t1 env v
        let mut ok := true
        for c in ifs1 do
          if ok then ok ← isTrue c env (eval c env)
        if ok then
          (do
            let kv ← eval kx env
            let vv ← holding [kv] (eval vx env)
            standAt { kx.pos with endLine := vx.pos.endLine, endCol := vx.pos.endCol }
            holding [kv, vv] (dictSet D kv vv))
        again (.compLoop (.DictComp kx vx [⟨t0, i0, ifs0, 0⟩, ⟨t1, i1, ifs1, 0⟩] scope pos) 1 it (.ref D) env)) := by rfl

section
variable {prog : Program} {w : World} {A : Around} {R : Result → Shared → Prop} {s : Shared} {kx vx t0 i0 t1 i1 : Expr} {ifs0 ifs1 : List Expr} {scope : Scope} {pos : Pos} {it : Value} {D : Addr} {env : Env}
/-- the loop of the first clause -/
theorem dcLoop2_out (hs : ∀ x, foldedSetIterable i1 env x = pure x) (I : Nat → Shared → Prop)
    (turn : ∀ n s, I n s → wpAny (model prog w) A (pyNext it) (fun r s₁ => match r with
      | none => R (.ok .next) s₁
      | some v => wpAny (model prog w) A (letOwnedTupleGo t0 it v) (fun _ s₁' => wpAny (model prog w) A (assign t0 env v) (fun _ s₂ =>
          wpAny (model prog w) A (forIn ifs0 true fun c r => if r = true then do let ok ← isTrue c env (eval c env); pure (ForInStep.yield ok) else pure (ForInStep.yield r)) (fun ok s₃ =>
            if ok = true then wpAny (model prog w) A (eval i1 env) (fun x s₄ => wpAny (model prog w) A (pyIter x) (fun it1 s₅ =>
              codeAny (model prog w) A (.compStart (.DictComp kx vx [⟨t0, i0, ifs0, 0⟩, ⟨t1, i1, ifs1, 0⟩] scope pos) 1 it1 (.ref D) env) (fun r s' => match r with
                | .ok _ => ∃ m, m < n ∧ I m s'
                | .error _ => False) s₅) (notedBy (model prog w) A env fun e s' => R (.error e) s') s₄) (notedBy (model prog w) A env fun e s' => R (.error e) s') s₃
            else ∃ m, m < n ∧ I m s₃) (notedBy (model prog w) A env fun e s' => R (.error e) s') s₂) (notedBy (model prog w) A env fun e s' => R (.error e) s') s₁') (notedBy (model prog w) A env fun e s' => R (.error e) s') s₁) (notedBy (model prog w) A env fun e s' => R (.error e) s') s)
    (n : Nat) (h : I n s) :
    codeAny (model prog w) A (.compLoop (.DictComp kx vx [⟨t0, i0, ifs0, 0⟩, ⟨t1, i1, ifs1, 0⟩] scope pos) 0 it (.ref D) env) R s := by
  refine codeAny_loop rfl I (fun n s hI => ?_) n h
  show wpAny _ A ((compTurn (.DictComp kx vx [⟨t0, i0, ifs0, 0⟩, ⟨t1, i1, ifs1, 0⟩] scope pos) 0 it (.ref D) env).onRaise (fun x => do noteFrame x env; theTreesLotGoes x)) _ _ s
  refine wpAny_noted ?_
  rw [dcTurn2_out]
  refine wpAny_bind (wpAny_standAt (wpAny_bind (wpAny_mono (turn n s hI) (fun r s₁ h₁ => ?_) fun _ _ h' => h')))
  cases r with
  | none => exact wpAny_pure h₁
  | some v =>
    refine wpAny_bind (wpAny_mono h₁ (fun _ s₁' h₁' => ?_) fun _ _ h' => h')
    refine wpAny_bind (wpAny_mono h₁' (fun _ s₂ h₂ => wpAny_bind (wpAny_mono h₂ (fun ok s₃ h₃ => ?_) fun _ _ h' => h')) fun _ _ h' => h')
    cases ok with
    | false => exact wpAny_pure ⟨rfl, h₃⟩
    | true =>
      refine wpAny_bind (wpAny_mono h₃ (fun x s₄ h₄ => ?_) fun _ _ h' => h')
      refine wpAny_bind (wpAny_standAt (wpAny_bind (wpAny_of_eq (hs x) (wpAny_bind (wpAny_holding (wpAny_mono h₄ (fun it1 s₅ h₅ => ?_) fun _ _ h' => h'))))))
      refine wpAny_bind (wpAny_runOwn ?_)
      rw [Around.mark_none]
      refine codeAny_mono h₅ fun r s' hr => ?_
      cases r with
      | ok f =>
        first
          | exact wpAny_pure ⟨rfl, hr⟩
          | exact wpAny_bind (wpAny_pure (wpAny_pure ⟨rfl, hr⟩))
      | error e => exact hr.elim
/-- the loop of the second -/
theorem dcLoop2_in (I : Nat → Shared → Prop)
    (turn : ∀ n s, I n s → wpAny (model prog w) A (pyNext it) (fun r s₁ => match r with
      | none => R (.ok .next) s₁
      | some v => wpAny (model prog w) A (letOwnedTupleGo t1 it v) (fun _ s₁' => wpAny (model prog w) A (assign t1 env v) (fun _ s₂ =>
          wpAny (model prog w) A (forIn ifs1 true fun c r => if r = true then do let ok ← isTrue c env (eval c env); pure (ForInStep.yield ok) else pure (ForInStep.yield r)) (fun ok s₃ =>
            if ok = true then wpAny (model prog w) A (eval kx env) (fun kv s₄ => wpAny (model prog w) A (eval vx env) (fun vv s₅ =>
              wpAny (model prog w) A (dictSet D kv vv) (fun _ s₆ => ∃ m, m < n ∧ I m s₆) (notedBy (model prog w) A env fun e s' => R (.error e) s') s₅) (notedBy (model prog w) A env fun e s' => R (.error e) s') s₄) (notedBy (model prog w) A env fun e s' => R (.error e) s') s₃
            else ∃ m, m < n ∧ I m s₃) (notedBy (model prog w) A env fun e s' => R (.error e) s') s₂) (notedBy (model prog w) A env fun e s' => R (.error e) s') s₁') (notedBy (model prog w) A env fun e s' => R (.error e) s') s₁) (notedBy (model prog w) A env fun e s' => R (.error e) s') s)
    (n : Nat) (h : I n s) :
    codeAny (model prog w) A (.compLoop (.DictComp kx vx [⟨t0, i0, ifs0, 0⟩, ⟨t1, i1, ifs1, 0⟩] scope pos) 1 it (.ref D) env) R s := by
  refine codeAny_loop rfl I (fun n s hI => ?_) n h
  show wpAny _ A ((compTurn (.DictComp kx vx [⟨t0, i0, ifs0, 0⟩, ⟨t1, i1, ifs1, 0⟩] scope pos) 1 it (.ref D) env).onRaise (fun x => do noteFrame x env; theTreesLotGoes x)) _ _ s
  refine wpAny_noted ?_
  rw [dcTurn2_in]
  refine wpAny_bind (wpAny_standAt (wpAny_bind (wpAny_mono (turn n s hI) (fun r s₁ h₁ => ?_) fun _ _ h' => h')))
  cases r with
  | none => exact wpAny_pure h₁
  | some v =>
    refine wpAny_bind (wpAny_mono h₁ (fun _ s₁' h₁' => ?_) fun _ _ h' => h')
    refine wpAny_bind (wpAny_mono h₁' (fun _ s₂ h₂ => wpAny_bind (wpAny_mono h₂ (fun ok s₃ h₃ => ?_) fun _ _ h' => h')) fun _ _ h' => h')
    cases ok with
    | false => exact wpAny_pure ⟨rfl, h₃⟩
    | true =>
      exact wpAny_bind (wpAny_bind (wpAny_mono h₃ (fun kv s₄ h₄ => wpAny_bind (wpAny_holding (wpAny_mono h₄ (fun vv s₅ h₅ => wpAny_bind (wpAny_standAt (wpAny_holding (wpAny_mono h₅ (fun _ s₆ h₆ => wpAny_pure ⟨rfl, h₆⟩) fun _ _ h' => h')))) fun _ _ h' => h'))) fun _ _ h' => h'))
/-- the second clause's start -/
theorem dcStart1_ok (h0 : codeAny (model prog w) A (.compLoop (.DictComp kx vx [⟨t0, i0, ifs0, 0⟩, ⟨t1, i1, ifs1, 0⟩] scope pos) 1 it (.ref D) env) R s)
    (h : wpAny (model prog w) A (pyIter it) (fun it' s' => codeAny (model prog w) A (.compLoop (.DictComp kx vx [⟨t0, i0, ifs0, 0⟩, ⟨t1, i1, ifs1, 0⟩] scope pos) 1 it' (.ref D) env) R s')
      (notedBy (model prog w) A env fun x s' => R (.error x) s') s) :
    codeAny (model prog w) A (.compStart (.DictComp kx vx [⟨t0, i0, ifs0, 0⟩, ⟨t1, i1, ifs1, 0⟩] scope pos) 1 it (.ref D) env) R s := by
  refine codeAny_of_tree ?_
  show wpAny _ _ ((compStart (.DictComp kx vx [⟨t0, i0, ifs0, 0⟩, ⟨t1, i1, ifs1, 0⟩] scope pos) 1 it (.ref D) env).onRaise (fun x => do noteFrame x env; standAt theWindowsPlace)) _ _ s
  refine wpAny_notedAt ?_
  unfold compStart
  show wpAny _ _ (ask >>= _) _ _ s
  refine wpAny_bind (wpAny_askSetting (wpAny_ite ?_))
  split
  · first
      | exact wpAny_bind (wpAny_pure (wpAny_pure (And.intro rfl h0)))
      | exact wpAny_pure (And.intro rfl h0)
  · first
      | exact wpAny_bind (wpAny_rule (wpAny_bind (wpAny_standAt (wpAny_bind (wpAny_mono h (fun it' s' h' => wpAny_pure (And.intro rfl h')) fun _ _ x => x)))))
      | (refine wpAny_bind (wpAny_rule ?_); show wpAny _ _ (standAt i1.pos >>= _) _ _ s; exact wpAny_bind (wpAny_standAt (wpAny_bind (wpAny_mono h (fun it' s' h' => wpAny_pure (And.intro rfl h')) fun _ _ x => x))))
end

section
variable {X : Cx}
/-- [elt for tg in iter if .. for tg1 in iter1 if ..]: behind the first clause's store and tests the second source's own loop, from which Nx is reached. vs: the block's names; vs1: those of the second target -/
def tDc2 (wi : TI) (g : TG) (tt : TT) (wi1 : TI) (g1 : TG) (tt1 : TT) (tk tv : TE) (vs vs1 : List Nat) : TE := fun σ H Q => wi σ H fun J H1 => ∀ D, H1 D = none → ∃ W : Nat → Nat → Hp → Prop, (∃ m, W 0 m (upd H1 D (.dT []))) ∧ ∀ i m H, W i m H →
  (J.stop i H ∧ Q (.ref D) H) ∨ (J.go i H ∧ ∃ Nx : Hp → Prop, (∀ H', Nx H' → ∃ m', m' < m ∧ W (i + 1) m' H') ∧ ∀ x H', J.yld i H x H' → g x (wipe σ vs) H' fun σ2 H2 => wipe σ2 vs = wipe σ vs ∧ tt σ2 H2 fun b H3 =>
    if b = true then wi1 σ2 H3 fun J1 H4 => ∃ W1 : Nat → Nat → Hp → Prop, (∃ m, W1 0 m H4) ∧ ∀ j k H, W1 j k H →
      (J1.stop j H ∧ Nx H) ∨ (J1.go j H ∧ ∃ Nx1 : Hp → Prop, (∀ H', Nx1 H' → ∃ k', k' < k ∧ W1 (j + 1) k' H') ∧ ∀ x H', J1.yld j H x H' → g1 x (wipe σ2 vs1) H' fun σ3 H5 => wipe σ3 vs1 = wipe σ2 vs1 ∧ tt1 σ3 H5 fun b H6 =>
        if b = true then tk σ3 H6 fun y H7 => tv σ3 H7 fun z H8 => ∃ H9, DPut H8 D y z H9 ∧ Nx1 H9 else Nx1 H6)
    else Nx H3)
theorem dc2_core {pins : List (Addr × Obj)} {s : Shared} {σ : L2.St} {H : Hp} {Q : VK} {kx vx tg iter tg1 iter1 : Expr} {ifs ifs1 : List Expr} {scope : Scope} {own : List (Str × Nat)} {vs1 : List Nat} {pos pos' : Pos} {wi wi1 : TI} {g g1 : TG} {tt tt1 : TT} {tk tv : TE} {use : Option (Value → Sem Unit)} {Qf : Value → Shared → Prop}
    (hc : X.calm = true) (hN : X.N.Nodup) (I : Inv X pins σ H s) (hi : PI X tg iter wi) (ok : BlkOk X.N X.env.scope scope own) (hv : ∀ i ∈ vs1, i ∈ own.map (·.2))
    (hg : ∀ (s : Shared) (H : Hp) (C : Addr) (cl : List (Str × Addr)) (fp : List Addr), PG (X.blk s H scope (compEnvC scope cl C X.env) fp) tg g) (ht : ∀ (s : Shared) (H : Hp) (C : Addr) (cl : List (Str × Addr)) (fp : List Addr), PTs (X.blk s H scope (compEnvC scope cl C X.env) fp) ifs tt)
    (hk : ∀ (s : Shared) (H : Hp) (C : Addr) (cl : List (Str × Addr)) (fp : List Addr), PE (X.blk s H scope (compEnvC scope cl C X.env) fp) kx tk) (hu : X.A.units + 1 < cLine)
    (he : ∀ (s : Shared) (H : Hp) (C : Addr) (cl : List (Str × Addr)) (fp : List Addr), PE (X.blk s H scope (compEnvC scope cl C X.env) fp) vx tv) (hs : ∀ x, foldedSetIterable iter X.env x = pure x)
    (hi1 : ∀ (s : Shared) (H : Hp) (C : Addr) (cl : List (Str × Addr)) (fp : List Addr), PI (X.blk s H scope (compEnvC scope cl C X.env) fp) tg1 iter1 wi1)
    (hg1 : ∀ (s : Shared) (H : Hp) (C : Addr) (cl : List (Str × Addr)) (fp : List Addr), PG (X.blk s H scope (compEnvC scope cl C X.env) fp) tg1 g1)
    (ht1 : ∀ (s : Shared) (H : Hp) (C : Addr) (cl : List (Str × Addr)) (fp : List Addr), PTs (X.blk s H scope (compEnvC scope cl C X.env) fp) ifs1 tt1)
    (hs1 : ∀ env x, foldedSetIterable iter1 env x = pure x)
    (h : tDc2 wi g tt wi1 g1 tt1 tk tv (own.map (·.2)) vs1 σ H Q)
    (hRR : ∀ D C s' m H', Inv X pins σ H' s' → Q (.ref D) H' → s'.heap.Ns C m → FpOk X pins H' C → compPost (model X.prog X.w) X.A X.xe use Qf (.ref D) C (.ok .next) s') :
    wpAny (model X.prog X.w) X.A (comprehension (.DictComp kx vx [⟨tg, iter, ifs, 0⟩, ⟨tg1, iter1, ifs1, 0⟩] scope pos) scope X.env pos' newDict false (eval iter X.env) use) Qf X.xe s := by
  have hfree : ∀ y ∈ scope.names, y.2 = .free → ∃ c, X.env.cells.lookup y.1 = some c := fun y hy e => by
    rcases ok.free y hy e with k | k
    · exact I.ok.has _ (.inl k)
    · exact I.ok.has _ (.inr k)
  refine wpAny_comprehension_free (use := use) rfl hs (closure_ok hfree) ok.kind (fun y hy e => by rw [ok.uniq y hy, e])
    (thn (hi.run pins s σ H _ I h) fun xv s1 hx => thn hx fun itv s2 h2 => ?_)
  obtain ⟨it, fp, tn, J, H2, e, I2, T, st2, f2, q⟩ := h2
  subst e
  refine wpAny_newObj_type (newEnv_comp ?_)
  generalize hD : s2.heap.objs.size = D
  have hDn : H2 D = none := I2.hok.fresh (Nat.le_of_eq hD)
  obtain ⟨W, ⟨m0, w0⟩, turn⟩ := q D hDn
  -- the new list
  generalize hs3 : ({ s2 with heap := s2.heap.push { cls := .type "dict", data := .dict #[] } } : Shared) = s3
  have I3 : Inv X pins σ (upd H2 D (.dT [])) s3 := by
    rw [← hs3]
    refine I2.laid (t' := s2.toks) (fun b o e => Heap.get?_push_of_some _ e) (Nat.le_of_eq hD) ?_
    rw [← hD]
    exact dt_empty s2.heap I2.big
  have h3 : s3.heap = s2.heap.push { cls := .type "dict", data := .dict #[] } := by rw [← hs3]
  have sz : ∀ b ∈ fp, b < s2.heap.objs.size := fun b hb => by
    obtain ⟨o, e, _⟩ := T.obj _ _ st2 b hb
    exact Heap.lt_size e
  have f3 : ∀ b ∈ fp, FpOk X pins (upd H2 D (.dT [])) b ∧ b < s3.heap.objs.size := fun b hb => by
    have hlt := sz b hb
    refine ⟨⟨?_, (f2 b hb).2⟩, by rw [h3, Heap.size_push]; exact Nat.lt_succ_of_lt hlt⟩
    rw [upd_ne (by rw [← hD]; exact Nat.ne_of_lt hlt)]
    exact (f2 b hb).1
  have st3 : tn 0 s3.heap := T.keep _ _ _ st2 fun b _ o e => by rw [h3]; exact Heap.get?_push_of_some _ e
  have I4 := block_start I3 ok hN f3
  have pg := hg s3 (upd H2 D (.dT [])) s3.heap.objs.size (cellsFrom (s3.heap.objs.size + 1) scope.names (cloFrom X.env.cells scope.names [])) fp
  have pt := ht s3 (upd H2 D (.dT [])) s3.heap.objs.size (cellsFrom (s3.heap.objs.size + 1) scope.names (cloFrom X.env.cells scope.names [])) fp
  have pk := hk s3 (upd H2 D (.dT [])) s3.heap.objs.size (cellsFrom (s3.heap.objs.size + 1) scope.names (cloFrom X.env.cells scope.names [])) fp
  have pe := he s3 (upd H2 D (.dT [])) s3.heap.objs.size (cellsFrom (s3.heap.objs.size + 1) scope.names (cloFrom X.env.cells scope.names [])) fp
  have pi1 := hi1 s3 (upd H2 D (.dT [])) s3.heap.objs.size (cellsFrom (s3.heap.objs.size + 1) scope.names (cloFrom X.env.cells scope.names [])) fp
  have pg1 := hg1 s3 (upd H2 D (.dT [])) s3.heap.objs.size (cellsFrom (s3.heap.objs.size + 1) scope.names (cloFrom X.env.cells scope.names [])) fp
  have pt1 := ht1 s3 (upd H2 D (.dT [])) s3.heap.objs.size (cellsFrom (s3.heap.objs.size + 1) scope.names (cloFrom X.env.cells scope.names [])) fp
  show codeAny _ _ (.compStart (.DictComp kx vx [⟨tg, iter, ifs, 0⟩, ⟨tg1, iter1, ifs1, 0⟩] scope pos) 0 (.ref it) (.ref D) (compEnvC scope (cellsFrom (s3.heap.objs.size + 1) scope.names (cloFrom X.env.cells scope.names [])) s3.heap.objs.size X.env)) (compPost (model X.prog X.w) X.A X.xe use Qf (.ref D) s3.heap.objs.size) { s3 with heap := pushCells (s3.heap.push { cls := .type "dict", data := .dict #[] }) scope.names }
  have nfp : ∀ b ∈ fp, (upd H2 D (.dT [])) b = none := fun b hb => (f3 b hb).1.1
  generalize hce : compEnvC scope (cellsFrom (s3.heap.objs.size + 1) scope.names (cloFrom X.env.cells scope.names [])) s3.heap.objs.size X.env = ce at I4 pg pt pk pe pi1 pg1 pt1 ⊢
  have cL : ce.locals = s3.heap.objs.size := by subst hce; rfl
  generalize hH3 : upd H2 D (.dT []) = H3 at I3 I4 pg pt pk pe pi1 pg1 pt1 w0 nfp f3
  generalize hs4 : ({ s3 with heap := pushCells (s3.heap.push { cls := .type "dict", data := .dict #[] }) scope.names } : Shared) = s4 at I4 ⊢
  have st4 : tn 0 s4.heap := T.keep _ _ _ st3 fun b _ o e => by rw [← hs4]; exact pushCells_keeps _ _ _ _ (Heap.get?_push_of_some _ e)
  have stat : ∀ {σ' : L2.St} {H' : Hp} {s' : Shared}, Inv (X.blk s3 H3 scope ce fp) [] σ' H' s' → (∀ b ∈ fp, H' b = none) → ∀ b ∈ fp, FpOk (X.blk s3 H3 scope ce fp) [] H' b := fun {σ' H' s'} I' hn b hb =>
    ⟨hn b hb, (I'.ok.exf b hb).1, I'.ok.exfs b hb, .inl hb, fun x c e => (I'.ok.exf b hb).2 x c e, fun p hp => absurd (show p ∈ ([] : List (Addr × Obj)) ++ [] from hp) (by simp)⟩
  have loop : codeAny (model X.prog X.w) X.A (.compLoop (.DictComp kx vx [⟨tg, iter, ifs, 0⟩, ⟨tg1, iter1, ifs1, 0⟩] scope pos) 0 (.ref it) (.ref D) ce) (compPost (model X.prog X.w) X.A X.xe use Qf (.ref D) s3.heap.objs.size) s4 := by
    refine dcLoop2_out (hs1 ce) (fun n s' => ∃ i H', Inv (X.blk s3 H3 scope ce fp) [] (wipe σ (own.map (·.2))) H' s' ∧ tn i s'.heap ∧ (∀ b ∈ fp, H' b = none) ∧ W i n H') ?_ m0 ⟨0, H3, I4, st4, nfp, w0⟩
    rintro n s5 ⟨i, H5, I5, st5, n5, w5⟩
    rcases turn i n H5 w5 with ⟨stop, qq⟩ | ⟨go, Nx, hNx, step⟩
    · have td := T.done (X.blk s3 H3 scope ce fp) rfl rfl rfl hc i [] s5 _ H5 (fun _ _ => False) I5 (stat I5 n5) st5 stop
      refine thnF td fun r s6 ⟨hr, I6⟩ => ?_
      subst hr
      -- back in the def's context
      have I7 : Inv X pins σ H5 s6 := I3.call' (ch := fp) I6.os I6.base I6.hok I6.bare fun b hb => ⟨(f3 b hb).1.2.2.2.1, (f3 b hb).1.2.1, (f3 b hb).1.2.2.2.2.1, (f3 b hb).1.2.2.2.2.2⟩
      have nC : H5 s3.heap.objs.size = none := by
        have z : H5 ce.locals = none := I6.free
        rw [cL] at z
        exact z
      obtain ⟨m, hn, _⟩ := I6.loc
      have hn : s6.heap.Ns ce.locals m := hn
      rw [cL] at hn
      exact hRR D s3.heap.objs.size s6 m H5 I7 qq hn (I3.fpOk (Nat.le_refl _) nC)
    · have ti := T.item (X.blk s3 H3 scope ce fp) rfl rfl rfl hc i [] s5 _ H5 (fun _ _ => False) I5 (stat I5 n5) st5 go
      refine thnF ti fun r s6 ⟨u, hr, h6⟩ => ?_
      subst hr
      refine thnF h6 fun _ s7 ⟨x, H7, I7, r7, y7, st7, n7⟩ => ?_
      have I7' := I7.pinned (stat I7 n7) (T.obj _ _ st7)
      refine thnF (pg.run _ s7 _ H7 x u _ I7' r7 (step x H7 y7)) fun _ s8 ⟨σ8, H8, I8, hw8, q8⟩ => ?_
      refine thnF (pt.run _ s8 σ8 H8 _ I8 q8) fun b s9 ⟨H9, I9, q9⟩ => ?_
      -- the turn's end, from any slots that know what the block knew at its start
      have fin : ∀ {σ9 : L2.St} {s' : Shared} {H' : Hp}, Inv (X.blk s3 H3 scope ce fp) ([] ++ pinsAt fp s7.heap) σ9 H' s' → (wipe σ (own.map (·.2))).length = σ9.length → (∀ (j : Nat) v, (wipe σ (own.map (·.2)))[j]? = some (some v) → σ9[j]? = some (some v)) → Nx H' →
          ∃ m, m < n ∧ ∃ i H', Inv (X.blk s3 H3 scope ce fp) [] (wipe σ (own.map (·.2))) H' s' ∧ tn i s'.heap ∧ (∀ b ∈ fp, H' b = none) ∧ W i m H' := fun {σ9 s' H'} I' hl hk nx => by
        obtain ⟨m', hm, w'⟩ := hNx H' nx
        have pin' : ∀ b ∈ fp, ∀ o, s7.heap.get? b = some o → s'.heap.get? b = some o ∧ H' b = none := fun b hb o e =>
          let z := I'.pin (b, o) (List.mem_append_right _ (List.mem_append_right _ (mem_pinsAt hb e)))
          ⟨z.1, z.2.1⟩
        refine ⟨m', hm, i + 1, H', (I'.unpinned (pins := [])).weak hl hk, T.keep _ _ _ st7 fun b hb o e => (pin' b hb o e).1, fun b hb => ?_, w'⟩
        obtain ⟨o, e, _⟩ := T.obj _ _ st7 b hb
        exact (pin' b hb o e).2
      have hl8 : (wipe σ (own.map (·.2))).length = σ8.length := by rw [← hw8, wipe_length]
      have hk8 : ∀ (j : Nat) v, (wipe σ (own.map (·.2)))[j]? = some (some v) → σ8[j]? = some (some v) := fun j v e => by
        rw [← hw8] at e
        exact (wipe_some e).1
      have hk9 : ∀ (j : Nat) v, (wipe σ (own.map (·.2)))[j]? = some (some v) → (wipe σ8 vs1)[j]? = some (some v) := fun j v e => by
        rw [← hw8] at e
        obtain ⟨e1, e2⟩ := wipe_some e
        rw [wipe_out fun z => e2 (hv j z)]
        exact e1
      cases b with
      | false =>
        simp only [Bool.false_eq_true, if_false] at q9 ⊢
        exact fin I9 hl8 hk8 q9
      | true =>
        simp only [if_true] at q9 ⊢
        refine thnF (pi1.run _ s9 σ8 H9 _ I9 q9) fun xv s10 hx => thnF hx fun itv s11 h11 => ?_
        obtain ⟨it1, fp1, tn1, J1, H11, e1, I11, T1, st11, f11, W1, ⟨m1, w1⟩, turn1⟩ := h11
        subst e1
        -- the inner loop
        have stat1 : ∀ {H' : Hp}, (∀ b ∈ fp1, H' b = none) → ∀ b ∈ fp1, FpOk (X.blk s3 H3 scope ce fp) ([] ++ pinsAt fp s7.heap) H' b := fun hn b hb => ⟨hn b hb, (f11 b hb).2⟩
        have loop1 : codeAny (model X.prog X.w) X.A (.compLoop (.DictComp kx vx [⟨tg, iter, ifs, 0⟩, ⟨tg1, iter1, ifs1, 0⟩] scope pos) 1 (.ref it1) (.ref D) ce)
            (fun r s' => match r with
              | .ok _ => ∃ m, m < n ∧ ∃ i H', Inv (X.blk s3 H3 scope ce fp) [] (wipe σ (own.map (·.2))) H' s' ∧ tn i s'.heap ∧ (∀ b ∈ fp, H' b = none) ∧ W i m H'
              | .error _ => False) s11 := by
          refine dcLoop2_in (fun k s' => ∃ j H', Inv (X.blk s3 H3 scope ce fp) ([] ++ pinsAt fp s7.heap) (wipe σ8 vs1) H' s' ∧ tn1 j s'.heap ∧ (∀ b ∈ fp1, H' b = none) ∧ W1 j k H') ?_ m1 ⟨0, H11, I11.weak (wipe_length _ _) (fun j v e => (wipe_some e).1), st11, fun b hb => (f11 b hb).1, w1⟩
          rintro k s12 ⟨j, H12, I12, st12, n12, w12⟩
          rcases turn1 j k H12 w12 with ⟨stop1, nx1⟩ | ⟨go1, Nx1, hNx1, step1⟩
          · refine thnF (T1.done (X.blk s3 H3 scope ce fp) rfl rfl rfl hc j _ s12 (wipe σ8 vs1) H12 (fun _ _ => False) I12 (stat1 n12) st12 stop1) fun r s13 ⟨hr, I13⟩ => ?_
            subst hr
            exact fin I13 (hl8.trans (wipe_length σ8 vs1).symm) hk9 nx1
          · refine thnF (T1.item (X.blk s3 H3 scope ce fp) rfl rfl rfl hc j _ s12 (wipe σ8 vs1) H12 (fun _ _ => False) I12 (stat1 n12) st12 go1) fun r s13 ⟨u1, hr, h13⟩ => ?_
            subst hr
            refine thnF h13 fun _ s14 ⟨x1, H14, I14, r14, y14, st14, n14⟩ => ?_
            have I14' := I14.pinned (stat1 n14) (T1.obj _ _ st14)
            refine thnF (pg1.run _ s14 (wipe σ8 vs1) H14 x1 u1 _ I14' r14 (step1 x1 H14 y14)) fun _ s15 ⟨σ15, H15, I15, hw15, q15⟩ => ?_
            refine thnF (pt1.run _ s15 σ15 H15 _ I15 q15) fun b1 s16 ⟨H16, I16, q16⟩ => ?_
            have fin1 : ∀ {s' : Shared} {H' : Hp}, Inv (X.blk s3 H3 scope ce fp) (([] ++ pinsAt fp s7.heap) ++ pinsAt fp1 s14.heap) σ15 H' s' → Nx1 H' → ∃ m, m < k ∧ ∃ j H', Inv (X.blk s3 H3 scope ce fp) ([] ++ pinsAt fp s7.heap) (wipe σ8 vs1) H' s' ∧ tn1 j s'.heap ∧ (∀ b ∈ fp1, H' b = none) ∧ W1 j m H' := fun {s' H'} I' nx => by
              obtain ⟨m', hm, w'⟩ := hNx1 H' nx
              have pin' : ∀ b ∈ fp1, ∀ o, s14.heap.get? b = some o → s'.heap.get? b = some o ∧ H' b = none := fun b hb o e =>
                let z := I'.pin (b, o) (List.mem_append_right _ (List.mem_append_right _ (mem_pinsAt hb e)))
                ⟨z.1, z.2.1⟩
              refine ⟨m', hm, j + 1, H', I'.unpinned.weak (by rw [← hw15, wipe_length]) (fun j v e => by rw [← hw15] at e; exact (wipe_some e).1), T1.keep _ _ _ st14 fun b hb o e => (pin' b hb o e).1, fun b hb => ?_, w'⟩
              obtain ⟨o, e, _⟩ := T1.obj _ _ st14 b hb
              exact (pin' b hb o e).2
            cases b1 with
            | false =>
              simp only [Bool.false_eq_true, if_false] at q16 ⊢
              exact fin1 I16 q16
            | true =>
              simp only [if_true] at q16 ⊢
              refine thnF (pk.run _ s16 σ15 H16 _ I16 q16) fun z s17 ⟨yk, H17, I17, r17, q17⟩ => ?_
              refine thnF (pe.run _ s17 σ15 H17 _ I17 q17) fun z2 s18 ⟨yv, H18, I18, r18, H19, hp, nx⟩ => ?_
              exact d_dictSetP (X := X.blk s3 H3 scope ce fp) hu I18 hp r17 r18 fun s19 I19 => fin1 I19 nx
        exact dcStart1_ok loop1 (T1.self X.A 0 _ _ _ st11 loop1)
  exact codeAny_compStart_dict loop (T.self X.A 0 _ _ _ st4 loop)
theorem pe_dc2 {kx vx tg iter tg1 iter1 : Expr} {ifs ifs1 : List Expr} {scope : Scope} {own : List (Str × Nat)} {vs1 : List Nat} {pos : Pos} {wi wi1 : TI} {g g1 : TG} {tt tt1 : TT} {tk tv : TE} (hc : X.calm = true) (hN : X.N.Nodup) (hi : PI X tg iter wi) (ok : BlkOk X.N X.env.scope scope own) (hv : ∀ i ∈ vs1, i ∈ own.map (·.2))
    (hg : ∀ (s : Shared) (H : Hp) (C : Addr) (cl : List (Str × Addr)) (fp : List Addr), PG (X.blk s H scope (compEnvC scope cl C X.env) fp) tg g) (ht : ∀ (s : Shared) (H : Hp) (C : Addr) (cl : List (Str × Addr)) (fp : List Addr), PTs (X.blk s H scope (compEnvC scope cl C X.env) fp) ifs tt)
    (hi1 : ∀ (s : Shared) (H : Hp) (C : Addr) (cl : List (Str × Addr)) (fp : List Addr), PI (X.blk s H scope (compEnvC scope cl C X.env) fp) tg1 iter1 wi1)
    (hg1 : ∀ (s : Shared) (H : Hp) (C : Addr) (cl : List (Str × Addr)) (fp : List Addr), PG (X.blk s H scope (compEnvC scope cl C X.env) fp) tg1 g1) (ht1 : ∀ (s : Shared) (H : Hp) (C : Addr) (cl : List (Str × Addr)) (fp : List Addr), PTs (X.blk s H scope (compEnvC scope cl C X.env) fp) ifs1 tt1)
    (hk : ∀ (s : Shared) (H : Hp) (C : Addr) (cl : List (Str × Addr)) (fp : List Addr), PE (X.blk s H scope (compEnvC scope cl C X.env) fp) kx tk) (hu : X.A.units + 1 < cLine)
    (he : ∀ (s : Shared) (H : Hp) (C : Addr) (cl : List (Str × Addr)) (fp : List Addr), PE (X.blk s H scope (compEnvC scope cl C X.env) fp) vx tv) (hs : ∀ x, foldedSetIterable iter X.env x = pure x := by intro _; rfl) (hs1 : ∀ env x, foldedSetIterable iter1 env x = pure x := by intro _ _; rfl) :
    PE X (.DictComp kx vx [⟨tg, iter, ifs, 0⟩, ⟨tg1, iter1, ifs1, 0⟩] scope pos) (tDc2 wi g tt wi1 g1 tt1 tk tv (own.map (·.2)) vs1) := by
  refine ⟨fun pins s σ H Q I h => ?_⟩
  rw [arm_eval_DictComp]
  refine dc2_core hc hN I hi ok hv hg ht hk hu he hs hi1 hg1 ht1 hs1 h fun D C s' m H' I' q hn f => ⟨m, hn, fun h'' sb => ?_⟩
  obtain ⟨f0, f1, f2, f3, f4, f5⟩ := f
  exact ⟨.ref D, H', I'.turned (t' := s'.toks) (fun b o hb e => (sb.2 b hb).trans e) f0 f1 f3 f4 f5, rfl, q⟩
end
end R71

set_option Elab.async false
set_option linter.all false
set_option maxRecDepth 100000
set_option maxHeartbeats 4000000
/-! k71: list comprehensions whose step may raise -/
namespace R71
open PySem PySem.Spec PyProof.Rows L2
theorem noteFrame_env {e : Value} {env env' : Env} (h : env'.frame = env.frame) : noteFrame e env' = noteFrame e env := by
  unfold noteFrame PySem.frameOf
  rw [h]
/-- an error of the block is in the air: E is wished of it -/
def xeF (X B0 : Cx) (E : XK) (u : Value) (s' : Shared) : Prop :=
  ∃ (a : Addr) (B : Heap) (sI : Shared) (pins : List (Addr × Obj)) (σ : L2.St) (H : Hp) (cls : Value) (d : Option Addr), u = .ref a ∧ Inv B0 pins σ H sI ∧ (∀ b o, sI.heap.get? b = some o → b ∉ frs X.stack → B.get? b = some o) ∧ sI.heap.UpToSlots s'.heap ∧
    HandSPX.FlyingZ B X.stack a (Zc cls d) s'.heap ∧ H a = none ∧ s'.os = sI.os ∧ AllBare s'.gens ∧ E cls d H
/-- the block's context, its errors told -/
abbrev blkR (X : Cx) (s : Shared) (H : Hp) (scope : Scope) (ce : Env) (fp : List Addr) (E : XK) : Cx := { X.blk s H scope ce fp with xe := xeF X (X.blk s H scope ce fp) E }
section
variable {X : Cx} {s3 : Shared} {H3 : Hp} {scope : Scope} {ce : Env} {fp : List Addr} {E : XK} {pins : List (Addr × Obj)} {σ : L2.St} {H : Hp} {s : Shared}
theorem blk_to (I : Inv (X.blk s3 H3 scope ce fp) pins σ H s) : Inv (blkR X s3 H3 scope ce fp E) pins σ H s :=
  ⟨⟨I.ok.mod, I.ok.kind, I.ok.glob, I.ok.blt, I.ok.above, I.ok.inj, I.ok.has, I.ok.cab, I.ok.hd, I.ok.frames, I.ok.stk, I.ok.exf, I.ok.bs, I.ok.bsz, I.ok.noex, I.ok.exfs, I.ok.funs, I.ok.frf⟩, I.os, I.bare, I.base, I.loc, I.cell, I.free, I.freeC, I.pin, I.hok, I.len⟩
theorem blk_of (I : Inv (blkR X s3 H3 scope ce fp E) pins σ H s) : Inv (X.blk s3 H3 scope ce fp) pins σ H s :=
  ⟨⟨I.ok.mod, I.ok.kind, I.ok.glob, I.ok.blt, I.ok.above, I.ok.inj, I.ok.has, I.ok.cab, I.ok.hd, I.ok.frames, I.ok.stk, I.ok.exf, I.ok.bs, I.ok.bsz, I.ok.noex, I.ok.exfs, I.ok.funs, I.ok.frf⟩, I.os, I.bare, I.base, I.loc, I.cell, I.free, I.freeC, I.pin, I.hok, I.len⟩
/-- a call's error, within the block -/
theorem passF : PassesAt (L2.CX X.prog X.w) (blkR X s3 H3 scope ce fp E) σ E := by
  intro pins H s e s' I c
  obtain ⟨a, B, H', cls, d, rfl, fl, hok, ub, na, os, ag, hE⟩ := c
  obtain ⟨G, g1, g2⟩ := restrict s'.heap fun b => (B.get? b).isSome || decide (b ∈ frs X.stack)
  have st : B.StaysIn s'.heap := fl.1
  have gB : ∀ b o, B.get? b = some o → G.get? b = some o := fun b o e => (g1 b (by simp [e])).trans (st b o e)
  have gF : ∀ b, b ∈ frs X.stack → G.get? b = s'.heap.get? b := fun b hb => g1 b (by simp [hb])
  have og : ∀ b o, G.get? b = some o → s'.heap.get? b = some o ∧ ((B.get? b).isSome = true ∨ b ∈ frs X.stack) := fun b o e => by
    cases q : ((B.get? b).isSome || decide (b ∈ frs X.stack)) with
    | false => rw [g2 b q] at e; cases e
    | true => rw [g1 b q] at e; exact ⟨e, by simpa [Bool.or_eq_true] using q⟩
  refine ⟨a, B, { s with heap := G, gens := s'.gens, drawn := s'.drawn, toks := s'.toks }, pins, σ, H', cls, d, rfl, blk_of (E := E) ?_, fun b o e hb => ?_, Heap.UpToSlots.of_keeps fun b o e => (og b o e).1, fl, na, os, ag, hE⟩
  · refine I.call (ch := []) ⟨fun b o e n hb _ => gB b o (ub.keep b o e n hb), fun b o e n hb _ => ?_, fun b o e n _ => ub.free b o e n, fun b o e _ => ?_, ub.tups, ub.frzs, ub.tbls⟩ (hok.kept gB) ag (fun _ z => nomatch z)
    · obtain ⟨sl, q⟩ := ub.slot b o e hb
      exact ⟨sl, by rw [gF b hb]; exact q⟩
    · by_cases hb : b ∈ frs X.stack
      · obtain ⟨sl, q⟩ := ub.slot b o e hb
        exact ⟨_, by rw [gF b hb]; exact q⟩
      · obtain ⟨o', q⟩ := ub.there b o e hb
        exact ⟨o', gB b o' q⟩
  · obtain ⟨e', h⟩ := og b o e
    rcases h with h | h
    · obtain ⟨o', q⟩ := Option.isSome_iff_exists.mp h
      have z := st b o' q
      rw [e'] at z; cases z
      exact q
    · exact absurd h hb
/-- the block's end: as it is, or with an error -/
def compPostX (M : Model) (A : Around) (E : Value → Shared → Prop) (Q : Value → Shared → Prop) (acc : Value) (ce : Env) (r : Result) (s' : Shared) : Prop :=
  match r with
  | .ok _ => ∃ m, s'.heap.Ns ce.locals m ∧ ∀ h', Heap.SameBut ce.locals s'.heap h' → Q acc { s' with heap := h' }
  | .error x => ∃ m, s'.heap.Ns ce.locals m ∧ ∀ h', Heap.SameBut ce.locals s'.heap h' → wpAny M A (PySem.passOn "comprehension.variables-let-go" x ce : Sem Value) (fun _ _ => False) E { s' with heap := h' }
/-- the error, noted by the block, leaves it -/
theorem lands {σ0 : L2.St} {pins0 : List (Addr × Obj)} {u : Value} {s' : Shared} {acc : Value} {Q : Value → Shared → Prop} (hs : X.stack = X.env :: X.outer) (hf : X.env.frame = some X.env.locals) (tk : Takes X (fun cls d _ H => E cls d H)) (I3 : Inv X pins0 σ0 H3 s3)
    (hfp : ∀ b ∈ fp, (b ∈ X.ex ∨ X.s_0.heap.objs.size ≤ b) ∧ b ≠ X.env.locals ∧ (∀ x c, X.env.cells.lookup x = some c → c ≠ b) ∧ ∀ p ∈ X.pn ++ pins0, p.1 ≠ b)
    (hce : ce.frame = X.env.frame) (hC : ce.locals = s3.heap.objs.size) (x : xeF X (X.blk s3 H3 scope ce fp) E u s') :
    notedBy (model X.prog X.w) X.A ce (fun e s' => compPostX (model X.prog X.w) X.A X.xe Q acc ce (.error e) s') u s' := by
  obtain ⟨a, B, sI, pins, σ, H, cls, d, rfl, I, nb, up, fl, na, os, ag, hE⟩ := x
  show wpAny _ _ (noteFrame (.ref a) ce) _ _ _
  rw [noteFrame_env hce]
  have hfr : X.A.frames = some (X.env :: X.outer) := by
    have := I3.ok.frames
    rw [hs] at this; exact this
  have fl' : HandSPX.FlyingZ B (X.env :: X.outer) a (Zc cls d) s'.heap := by rw [← hs]; exact fl
  refine HandSPX.looks_onZ Zc.steady hfr hf fl' fun h1 hh up1 => ?_
  obtain ⟨m, hn, _⟩ := I.loc
  have hn : sI.heap.Ns ce.locals m := hn
  have up2 : sI.heap.UpToSlots h1 := up.trans up1
  refine ⟨m, Heap.UpToSlots.ns up2 hn, fun h2 sb => ?_⟩
  -- the block's names are gone
  have hcf : ce.locals ∉ frs X.stack := fun hm => by
    have z : s3.heap.objs.size ∉ frs X.stack := fun hm => by
      obtain ⟨e, he, q⟩ := List.mem_filterMap.mp hm
      rw [hs] at he
      rcases List.mem_cons.mp he with z | z
      · subst z
        rw [hf] at q
        have := Option.some.inj q
        obtain ⟨m3, hn3, _⟩ := I3.loc
        exact absurd hn3.lt (by rw [← this]; exact Nat.lt_irrefl _ |> fun h => by rw [this]; exact h)
      · exact I3.nofs (Nat.le_refl _) (List.mem_filterMap.mpr ⟨e, z, q⟩)
    rw [hC] at hm
    exact z hm
  obtain ⟨oC, hoC⟩ : ∃ o, sI.heap.get? ce.locals = some o := by
    obtain ⟨o, _, _, e, _⟩ := id hn
    exact ⟨o, e⟩
  have hBC : B.get? ce.locals = some oC := nb _ _ hoC hcf
  obtain ⟨hB, hna, hfu, oe, vs, T, oT, ts, he, hz, hd, hv1, hnT, hTe, hT, hdT, ht3⟩ := hh
  have aC : a ≠ ce.locals := fun z => by rw [z, hBC] at hna; cases hna
  have TC : T ≠ ce.locals := fun z => by rw [z, hBC] at hnT; cases hnT
  have k2 : ∀ b, b ≠ ce.locals → h2.get? b = h1.get? b := fun b hb => sb.2 b hb
  have hB2 : (PySem.W.hideAll B [ce.locals]).StaysIn h2 := fun b o e => by
    have nb2 : b ≠ ce.locals := fun z => by rw [z, PySem.W.hideAll_none _ (by simp)] at e; cases e
    exact (k2 b nb2).trans (hB b o (PySem.W.of_hideAll _ e))
  have hide_none : ∀ b, B.get? b = none → (PySem.W.hideAll B [ce.locals]).get? b = none := fun b hb => by
    cases q : (PySem.W.hideAll B [ce.locals]).get? b with
    | none => rfl
    | some o => rw [PySem.W.of_hideAll _ q] at hb; cases hb
  have ff : h2.FunFrames (PySem.W.hideAll B [ce.locals]) (X.env :: X.outer) := by
    have key : ∀ l : List Env, (∀ L, L ∈ frs l → L ≠ ce.locals) → h1.FunFrames B l → h2.FunFrames (PySem.W.hideAll B [ce.locals]) l := by
      intro l
      induction l with
      | nil => intro _ _; trivial
      | cons e r ih =>
        rintro hl ⟨q1, ⟨L, o, q2, q3, q4, q5⟩, q6⟩
        have hm : L ∈ frs (e :: r) := List.mem_filterMap.mpr ⟨e, List.mem_cons_self, q2⟩
        refine ⟨q1, ⟨L, o, q2, hide_none _ q3, (k2 L (hl L hm)).trans q4, q5⟩, ih (fun L' h' => hl L' ?_) q6⟩
        obtain ⟨e', he', qq⟩ := List.mem_filterMap.mp h'
        exact List.mem_filterMap.mpr ⟨e', List.mem_cons_of_mem _ he', qq⟩
    refine key _ (fun L hm z => hcf ?_) hfu
    rw [hs, ← z]; exact hm
  have hh2 : HandSPX.HeldZ (PySem.W.hideAll B [ce.locals]) (X.env :: X.outer) a (Zc cls d) X.env.locals h2 :=
    ⟨hB2, hide_none _ hna, ff, oe, vs, T, oT, ts, (k2 a aC).trans he, hz, hd, hv1, hide_none _ hnT, hTe, (k2 T TC).trans hT, hdT, ht3⟩
  -- the state without it, in the def's context
  have hlt : ∀ b o, s3.heap.get? b = some o → b ≠ ce.locals := fun b o e => by rw [hC]; exact Nat.ne_of_lt (Heap.lt_size e)
  have nC : H ce.locals = none := I.free
  have U := I.base
  have I7 : Inv X pins0 σ0 H { sI with heap := PySem.W.hideAll sI.heap [ce.locals] } := by
    refine I3.call' (ch := fp) (s' := { sI with heap := PySem.W.hideAll sI.heap [ce.locals] }) I.os ⟨fun b o e n hb hx => ?_, fun b o e n hb hx => ?_, U.free, fun b o e hx => ?_, U.tups, U.frzs, U.tbls⟩ (fun b ob e => ?_) I.bare hfp
    · exact PySem.W.hideAll_get _ (U.keep b o e n hb hx) (by simpa using hlt b o e)
    · obtain ⟨sl, q⟩ := U.slot b o e n hb hx
      exact ⟨sl, PySem.W.hideAll_get _ q (by simpa using hlt b o e)⟩
    · obtain ⟨o', q⟩ := U.there b o e hx
      exact ⟨o', PySem.W.hideAll_get _ q (by simpa using hlt b o e)⟩
    · refine (I.hok b ob e).stay (fun c w' hc q => PySem.W.hideAll_get _ q ?_) (fun _ q => q) fun _ _ q => q
      intro hm
      have hm : c = ce.locals := by simpa using hm
      subst hm
      rcases hc with hc | hc
      · rw [← hc, nC] at e; cases e
      · rw [nC] at hc; cases hc
  unfold PySem.passOn
  refine wpAny_bind (wpAny_field (s := { s' with heap := h2 }) ((k2 a aC).trans he) hd hv1 ?_)
  rw [if_neg (show ¬ ((Value.ref T == Value.none) = true) by simp)]
  rw [hce, hf]
  refine wpAny_bind (HandSPX.setFlight_onZ hh2 fun h3 hh3 up3 => wpAny_throw (tk _ _ ?_))
  refine ⟨a, PySem.W.hideAll B [ce.locals], { sI with heap := PySem.W.hideAll sI.heap [ce.locals] }, pins0, σ0, H, cls, d, rfl, I7, fun b o e hb => ?_, fun b o e nf => ?_, .inr (.inr (by rw [hs]; exact hh3)), na, os, ag, hE⟩
  · have nb2 : b ≠ ce.locals := fun z => by rw [z, PySem.W.hideAll_none _ (by simp)] at e; cases e
    exact PySem.W.hideAll_get _ (nb b o (PySem.W.of_hideAll _ e) hb) (by simpa using nb2)
  · have nb2 : b ≠ ce.locals := fun z => by rw [z, PySem.W.hideAll_none _ (by simp)] at e; cases e
    obtain ⟨sl, q⟩ := up2 b o (PySem.W.of_hideAll _ e) nf
    obtain ⟨sl2, q2⟩ := up3 b _ ((k2 b nb2).trans q) nf
    exact ⟨sl2, q2⟩
end
end R71

set_option Elab.async false
set_option linter.all false
set_option maxRecDepth 100000
set_option maxHeartbeats 4000000
/-! k71: a list comprehension whose step may raise -/
namespace R71
open PySem PySem.Spec PyProof.Rows L2
theorem comp_x {M : Model} {A : Around} {E : Value → Shared → Prop} {s : Shared} {env : Env} {e : Expr} {scope : Scope} {pos : Pos} {newAcc first : Sem Value} {g : Comprehension} {gs : List Comprehension} {cl : List (Str × Addr)} {Q : Value → Shared → Prop}
    (hcl : clausesOf e = g :: gs) (hs : ∀ x, foldedSetIterable g.iter env x = pure x) (hclos : closureFor scope env = pure cl)
    (hkind : scope.kind = .function) (hnames : ∀ x ∈ scope.names, x.2 = .local → scope.names.lookup x.1 = some .local)
    (h : wpAny M A first (fun x s₁ => wpAny M A (pyIter x) (fun it s₂ => wpAny M A newAcc (fun acc s₃ =>
      wpAny M A (newFunctionEnv scope env.globals cl [] env.qual none .none (some env)) (fun cenv s₄ =>
        codeAny M A (.compStart e 0 it acc { cenv with scope := relabel scope env }) (compPostX M A E Q acc { cenv with scope := relabel scope env }) s₄) E s₃) E s₂) E s₁) E s) :
    wpAny M A (comprehension e scope env pos newAcc false first none) Q E s := by
  unfold comprehension
  rw [hclos, hcl]
  refine wpAny_bind (wpAny_mono h (fun x s₁ h₁ => wpAny_bind (wpAny_standAt (wpAny_bind (wpAny_of_eq (hs x) (wpAny_bind (wpAny_holding (wpAny_mono h₁ (fun it s₂ h₂ =>
    wpAny_standIf (wpAny_bind (wpAny_mono h₂ (fun acc s₃ h₃ => wpAny_bind (wpAny_pure (wpAny_bind (wpAny_mono h₃ (fun cenv s₄ h₄ => ?_) fun _ _ h' => h')))) fun _ _ h' => h')))
      fun _ _ h' => h'))))))) fun _ _ h' => h')
  dsimp only
  have hv : ∀ x ∈ (scope.names.filter fun x => (x.2 == .local || x.2 == .cell) && x.1 != (".0" : Str)).reverse, x.2 = .local →
      Env.kindOf { cenv with scope := relabel scope env } x.1 = some .local := fun x hx hl => lookup_relabel_local (hnames x (List.mem_filter.mp (List.mem_reverse.mp hx)).1 hl)
  refine wpAny_holding (wpAny_bind (wpAny_attempt (wpAny_holding (wpAny_run (codeAny_mono h₄ fun r s' hr => ?_)))))
  cases r with
  | ok f =>
    obtain ⟨m, hn, hr⟩ := hr
    exact wpAny_bind (wpAny_holding (wpAny_comp_letGo (cenv := { cenv with scope := relabel scope env }) hkind _ s' m hv hn fun h' m' _ hs' => wpAny_pure (hr h' hs')))
  | error x =>
    obtain ⟨m, hn, hr⟩ := hr
    exact wpAny_bind (wpAny_holding (wpAny_comp_letGo (cenv := { cenv with scope := relabel scope env }) hkind _ s' m hv hn fun h' m' _ hs' => wpAny_mono (hr h' hs') (fun _ _ f => f.elim) fun _ _ y => y))
section
variable {X : Cx}
theorem lcR_core {pins : List (Addr × Obj)} {s : Shared} {σ : L2.St} {H : Hp} {Q : VK} {elt tg iter : Expr} {ifs : List Expr} {scope : Scope} {own : List (Str × Nat)} {pos pos' : Pos} {wi : TI} {g : TG} {tt : TT} {te : TE} {Qf : Value → Shared → Prop}
    (hc : X.calm = true) (hs0 : X.stack = X.env :: X.outer) (hf0 : X.env.frame = some X.env.locals) {E : XK} (tk : Takes X (fun cls d _ H => E cls d H)) (hN : X.N.Nodup) (I : Inv X pins σ H s) (hi : PI X tg iter wi) (ok : BlkOk X.N X.env.scope scope own)
    (hg : ∀ (s : Shared) (H : Hp) (C : Addr) (cl : List (Str × Addr)) (fp : List Addr), PG (X.blk s H scope (compEnvC scope cl C X.env) fp) tg g) (ht : ∀ (s : Shared) (H : Hp) (C : Addr) (cl : List (Str × Addr)) (fp : List Addr), PTs (X.blk s H scope (compEnvC scope cl C X.env) fp) ifs tt)
    (he : ∀ (s : Shared) (H : Hp) (C : Addr) (cl : List (Str × Addr)) (fp : List Addr), PE (blkR X s H scope (compEnvC scope cl C X.env) fp E) elt te) (hs : ∀ x, foldedSetIterable iter X.env x = pure x)
    (h : tLc wi g tt te (own.map (·.2)) σ H Q)
    (hRR : ∀ D C s' m H', Inv X pins σ H' s' → Q (.ref D) H' → s'.heap.Ns C m → FpOk X pins H' C → ∃ m, s'.heap.Ns C m ∧ ∀ h', Heap.SameBut C s'.heap h' → Qf (.ref D) { s' with heap := h' }) :
    wpAny (model X.prog X.w) X.A (comprehension (.ListComp elt [⟨tg, iter, ifs, 0⟩] scope pos) scope X.env pos' (newList []) false (eval iter X.env) none) Qf X.xe s := by
  have hfree : ∀ y ∈ scope.names, y.2 = .free → ∃ c, X.env.cells.lookup y.1 = some c := fun y hy e => by
    rcases ok.free y hy e with k | k
    · exact I.ok.has _ (.inl k)
    · exact I.ok.has _ (.inr k)
  refine comp_x rfl hs (closure_ok hfree) ok.kind (fun y hy e => by rw [ok.uniq y hy, e])
    (thn (hi.run pins s σ H _ I h) fun xv s1 hx => thn hx fun itv s2 h2 => ?_)
  obtain ⟨it, fp, tn, J, H2, e, I2, T, st2, f2, q⟩ := h2
  subst e
  refine wpAny_newObj_type (newEnv_comp ?_) (by show 0 ≤ sizeLine; decide)
  generalize hD : s2.heap.objs.size = D
  have hDn : H2 D = none := I2.hok.fresh (Nat.le_of_eq hD)
  obtain ⟨W, ⟨m0, w0⟩, turn⟩ := q D hDn
  -- the new list
  generalize hs3 : ({ s2 with heap := s2.heap.push { cls := .type "list", data := .seq ([] : List Value).toArray } } : Shared) = s3
  have I3 : Inv X pins σ (upd H2 D (.lst [])) s3 := by
    rw [← hs3]
    refine I2.laid (t' := s2.toks) (fun b o e => Heap.get?_push_of_some _ e) (Nat.le_of_eq hD) ⟨Nat.zero_le _, [], 0, .nil, ?_⟩
    rw [← hD]
    exact Heap.get?_push_size _ rfl
  have h3 : s3.heap = s2.heap.push { cls := .type "list", data := .seq ([] : List Value).toArray } := by rw [← hs3]
  have sz : ∀ b ∈ fp, b < s2.heap.objs.size := fun b hb => by
    obtain ⟨o, e, _⟩ := T.obj _ _ st2 b hb
    exact Heap.lt_size e
  have f3 : ∀ b ∈ fp, FpOk X pins (upd H2 D (.lst [])) b ∧ b < s3.heap.objs.size := fun b hb => by
    have hlt := sz b hb
    refine ⟨⟨?_, (f2 b hb).2⟩, by rw [h3, Heap.size_push]; exact Nat.lt_succ_of_lt hlt⟩
    rw [upd_ne (by rw [← hD]; exact Nat.ne_of_lt hlt)]
    exact (f2 b hb).1
  have st3 : tn 0 s3.heap := T.keep _ _ _ st2 fun b _ o e => by rw [h3]; exact Heap.get?_push_of_some _ e
  have I4 := block_start I3 ok hN f3
  have pg := hg s3 (upd H2 D (.lst [])) s3.heap.objs.size (cellsFrom (s3.heap.objs.size + 1) scope.names (cloFrom X.env.cells scope.names [])) fp
  have pt := ht s3 (upd H2 D (.lst [])) s3.heap.objs.size (cellsFrom (s3.heap.objs.size + 1) scope.names (cloFrom X.env.cells scope.names [])) fp
  have pe := he s3 (upd H2 D (.lst [])) s3.heap.objs.size (cellsFrom (s3.heap.objs.size + 1) scope.names (cloFrom X.env.cells scope.names [])) fp
  show codeAny _ _ (.compStart (.ListComp elt [⟨tg, iter, ifs, 0⟩] scope pos) 0 (.ref it) (.ref D) (compEnvC scope (cellsFrom (s3.heap.objs.size + 1) scope.names (cloFrom X.env.cells scope.names [])) s3.heap.objs.size X.env)) (compPostX (model X.prog X.w) X.A X.xe Qf (.ref D) (compEnvC scope (cellsFrom (s3.heap.objs.size + 1) scope.names (cloFrom X.env.cells scope.names [])) s3.heap.objs.size X.env)) { s3 with heap := pushCells (s3.heap.push { cls := .type "dict", data := .dict #[] }) scope.names }
  have nfp : ∀ b ∈ fp, (upd H2 D (.lst [])) b = none := fun b hb => (f3 b hb).1.1
  generalize hce : compEnvC scope (cellsFrom (s3.heap.objs.size + 1) scope.names (cloFrom X.env.cells scope.names [])) s3.heap.objs.size X.env = ce at I4 pg pt pe ⊢
  have cL : ce.locals = s3.heap.objs.size := by subst hce; rfl
  have cF : ce.frame = X.env.frame := by subst hce; rfl
  generalize hH3 : upd H2 D (.lst []) = H3 at I3 I4 pg pt pe w0 nfp f3
  generalize hs4 : ({ s3 with heap := pushCells (s3.heap.push { cls := .type "dict", data := .dict #[] }) scope.names } : Shared) = s4 at I4 ⊢
  have st4 : tn 0 s4.heap := T.keep _ _ _ st3 fun b _ o e => by rw [← hs4]; exact pushCells_keeps _ _ _ _ (Heap.get?_push_of_some _ e)
  have stat : ∀ {σ' : L2.St} {H' : Hp} {s' : Shared}, Inv (X.blk s3 H3 scope ce fp) [] σ' H' s' → (∀ b ∈ fp, H' b = none) → ∀ b ∈ fp, FpOk (X.blk s3 H3 scope ce fp) [] H' b := fun {σ' H' s'} I' hn b hb =>
    ⟨hn b hb, (I'.ok.exf b hb).1, I'.ok.exfs b hb, .inl hb, fun x c e => (I'.ok.exf b hb).2 x c e, fun p hp => absurd (show p ∈ ([] : List (Addr × Obj)) ++ [] from hp) (by simp)⟩
  have loop : codeAny (model X.prog X.w) X.A (.compLoop (.ListComp elt [⟨tg, iter, ifs, 0⟩] scope pos) 0 (.ref it) (.ref D) ce) (compPostX (model X.prog X.w) X.A X.xe Qf (.ref D) ce) s4 := by
    refine compLoop_any (fun n s' => ∃ i H', Inv (X.blk s3 H3 scope ce fp) [] (wipe σ (own.map (·.2))) H' s' ∧ tn i s'.heap ∧ (∀ b ∈ fp, H' b = none) ∧ W i n H') ?_ m0 ⟨0, H3, I4, st4, nfp, w0⟩
    rintro n s5 ⟨i, H5, I5, st5, n5, w5⟩
    rcases turn i n H5 w5 with ⟨stop, qq⟩ | ⟨go, Nx, hNx, step⟩
    · have td := T.done (X.blk s3 H3 scope ce fp) rfl rfl rfl hc i [] s5 _ H5 (fun _ _ => False) I5 (stat I5 n5) st5 stop
      refine thnF td fun r s6 ⟨hr, I6⟩ => ?_
      subst hr
      -- back in the def's context
      have I7 : Inv X pins σ H5 s6 := I3.call' (ch := fp) I6.os I6.base I6.hok I6.bare fun b hb => ⟨(f3 b hb).1.2.2.2.1, (f3 b hb).1.2.1, (f3 b hb).1.2.2.2.2.1, (f3 b hb).1.2.2.2.2.2⟩
      have nC : H5 s3.heap.objs.size = none := by
        have z : H5 ce.locals = none := I6.free
        rw [cL] at z
        exact z
      obtain ⟨m, hn, _⟩ := I6.loc
      have hn : s6.heap.Ns ce.locals m := hn
      have fin := hRR D ce.locals s6 m H5 I7 qq hn (by rw [cL]; exact I3.fpOk (Nat.le_refl _) nC)
      exact fin
    · have ti := T.item (X.blk s3 H3 scope ce fp) rfl rfl rfl hc i [] s5 _ H5 (fun _ _ => False) I5 (stat I5 n5) st5 go
      refine thnF ti fun r s6 ⟨u, hr, h6⟩ => ?_
      subst hr
      refine thnF h6 fun _ s7 ⟨x, H7, I7, r7, y7, st7, n7⟩ => ?_
      have I7' := I7.pinned (stat I7 n7) (T.obj _ _ st7)
      refine thnF (pg.run _ s7 _ H7 x u _ I7' r7 (step x H7 y7)) fun _ s8 ⟨σ8, H8, I8, hw8, q8⟩ => ?_
      refine thnF (pt.run _ s8 σ8 H8 _ I8 q8) fun b s9 ⟨H9, I9, q9⟩ => ?_
      -- the turn's end
      have fin : ∀ {s' : Shared} {H' : Hp}, Inv (X.blk s3 H3 scope ce fp) ([] ++ pinsAt fp s7.heap) σ8 H' s' → Nx H' → ∃ m, m < n ∧ ∃ i H', Inv (X.blk s3 H3 scope ce fp) [] (wipe σ (own.map (·.2))) H' s' ∧ tn i s'.heap ∧ (∀ b ∈ fp, H' b = none) ∧ W i m H' := fun {s' H'} I' nx => by
        obtain ⟨m', hm, w'⟩ := hNx H' nx
        have pin' : ∀ b ∈ fp, ∀ o, s7.heap.get? b = some o → s'.heap.get? b = some o ∧ H' b = none := fun b hb o e =>
          let z := I'.pin (b, o) (List.mem_append_right _ (List.mem_append_right _ (mem_pinsAt hb e)))
          ⟨z.1, z.2.1⟩
        have hl : (wipe σ (own.map (·.2))).length = σ8.length := by rw [← hw8, wipe_length]
        refine ⟨m', hm, i + 1, H', (I'.unpinned (pins := [])).weak hl (fun j v e => ?_), T.keep _ _ _ st7 fun b hb o e => (pin' b hb o e).1, fun b hb => ?_, w'⟩
        · rw [← hw8] at e
          exact (wipe_some e).1
        · obtain ⟨o, e, _⟩ := T.obj _ _ st7 b hb
          exact (pin' b hb o e).2
      cases b with
      | false =>
        simp only [Bool.false_eq_true, if_false] at q9 ⊢
        exact fin I9 q9
      | true =>
        simp only [if_true] at q9 ⊢
        refine wpAny_mono (pe.run _ s9 σ8 H9 _ (blk_to I9) q9) (fun z s10 ⟨yv, H10, I10, r10, acc, hD10, hz10, nx⟩ => ?_) (fun u s' x => lands hs0 hf0 tk I3 (fun b hb => ⟨(f3 b hb).1.2.2.2.1, (f3 b hb).1.2.1, (f3 b hb).1.2.2.2.2.1, (f3 b hb).1.2.2.2.2.2⟩) cF cL x)
        exact app_ok (X := X.blk s3 H3 scope ce fp) (blk_of I10) hD10 hz10 r10 fun s11 I11 => fin I11 nx
  exact codeAny_compStart_list loop (T.self X.A 0 _ _ _ st4 loop)
theorem pe_lcR {elt tg iter : Expr} {ifs : List Expr} {scope : Scope} {own : List (Str × Nat)} {pos : Pos} {wi : TI} {g : TG} {tt : TT} {te : TE} (hc : X.calm = true) (hs0 : X.stack = X.env :: X.outer) (hf0 : X.env.frame = some X.env.locals) {E : XK} (tk : Takes X (fun cls d _ H => E cls d H)) (hN : X.N.Nodup) (hi : PI X tg iter wi) (ok : BlkOk X.N X.env.scope scope own)
    (hg : ∀ (s : Shared) (H : Hp) (C : Addr) (cl : List (Str × Addr)) (fp : List Addr), PG (X.blk s H scope (compEnvC scope cl C X.env) fp) tg g) (ht : ∀ (s : Shared) (H : Hp) (C : Addr) (cl : List (Str × Addr)) (fp : List Addr), PTs (X.blk s H scope (compEnvC scope cl C X.env) fp) ifs tt)
    (he : ∀ (s : Shared) (H : Hp) (C : Addr) (cl : List (Str × Addr)) (fp : List Addr), PE (blkR X s H scope (compEnvC scope cl C X.env) fp E) elt te) (hs : ∀ x, foldedSetIterable iter X.env x = pure x := by intro _; rfl) :
    PE X (.ListComp elt [⟨tg, iter, ifs, 0⟩] scope pos) (tLc wi g tt te (own.map (·.2))) := by
  refine ⟨fun pins s σ H Q I h => ?_⟩
  rw [eval_ListComp]
  refine lcR_core hc hs0 hf0 tk hN I hi ok hg ht he hs h fun D C s' m H' I' q hn f => ⟨m, hn, fun h'' sb => ?_⟩
  obtain ⟨f0, f1, f2, f3, f4, f5⟩ := f
  exact ⟨.ref D, H', I'.turned (t' := s'.toks) (fun b o hb e => (sb.2 b hb).trans e) f0 f1 f3 f4 f5, rfl, q⟩
end
end R71

set_option Elab.async false
set_option linter.all false
set_option maxRecDepth 100000
set_option maxHeartbeats 4000000
/-! k71: heaps beside the pool, values as data, comprehensions -/
namespace K71
open PySem PySem.Spec PyProof.Rows L2
theorem pe_gi {X : Cx} {x : Str} {i : Int} {t : PySem.Tok} {pos : Pos} (h : Gl X x) (hm : X.mg x = some (.int i t)) (hd : (x == ("__debug__" : Str)) = false := by decide) : PE X (.Name x pos) (tC (.int i)) := pe_glob (v := .int i) h hm ⟨t, rfl⟩ hd
theorem pe_gs {X : Cx} {x : Str} {i : Str} {t : PySem.Tok} {pos : Pos} (h : Gl X x) (hm : X.mg x = some (.str i t)) (hd : (x == ("__debug__" : Str)) = false := by decide) : PE X (.Name x pos) (tC (.str i)) := pe_glob (v := .str i) h hm ⟨t, rfl⟩ hd
theorem pe_gt {X : Cx} {x : Str} {a : Addr} {pos : Pos} (h : Gl X x) (hm : X.mg x = some (.ref a)) (hd : (x == ("__debug__" : Str)) = false := by decide) : PE X (.Name x pos) (tC (.ref a)) := pe_glob (v := .ref a) h hm rfl hd
abbrev rLenS (K : PySem.W.Frag) : List V → Hp → VK → Prop := fun xs H Q => ∃ p ys, xs = [.ref p] ∧ (SqL K H p ys ∨ SqT K H p ys) ∧ Q (.int ys.length) H
abbrev rListOf (K : PySem.W.Frag) : List V → Hp → VK → Prop := fun xs H Q => ∃ p ys, xs = [.ref p] ∧ (SqL K H p ys ∨ SqT K H p ys) ∧ ∀ l, H l = none → Q (.ref l) (upd H l (.lst ys))
abbrev rTupOf (K : PySem.W.Frag) : List V → Hp → VK → Prop := fun xs H Q => ∃ p ys, xs = [.ref p] ∧ ((SqL K H p ys ∧ ∀ l, H l = none → Q (.ref l) (upd H l (.tup ys))) ∨ (SqT K H p ys ∧ Q (.ref p) H))
def rEqM (K : PySem.W.Frag) : R2 := fun x y H Q => ∃ d e, Dp K H x d ∧ Dp K H y e ∧ d.canLay0 = true ∧ e.canLay0 = true ∧ min d.depth e.depth ≤ 64 ∧ Q (.bl (PyData.eqv d e)) H
def rNeM (K : PySem.W.Frag) : R2 := fun x y H Q => ∃ d e, Dp K H x d ∧ Dp K H y e ∧ d.canLay0 = true ∧ e.canLay0 = true ∧ min d.depth e.depth ≤ 64 ∧ Q (.bl (!PyData.eqv d e)) H
theorem op_eqM {X : Cx} (hu : X.A.units + 64 < cLine) : OpR X (compareOp .Eq) (rEqM X.K) := by
  intro pins s σ H x y v u Q I rx ry h
  obtain ⟨d, e, hd, he, sd, se, hm, q⟩ := h
  obtain ⟨as, r1⟩ := Dp.reads I d x v hd rx
  obtain ⟨bs, r2⟩ := Dp.reads I e y u he ry
  exact SeqAt.compareEq_reads r1 r2 sd se (by omega) ⟨.bl _, H, I, rfl, q⟩
theorem op_neM {X : Cx} (hu : X.A.units + 64 < cLine) : OpR X (compareOp .NotEq) (rNeM X.K) := by
  intro pins s σ H x y v u Q I rx ry h
  obtain ⟨d, e, hd, he, sd, se, hm, q⟩ := h
  obtain ⟨as, r1⟩ := Dp.reads I d x v hd rx
  obtain ⟨bs, r2⟩ := Dp.reads I e y u he ry
  exact SeqAt.compareNe_reads r1 r2 sd se (by omega) ⟨.bl _, H, I, rfl, q⟩
/-! the heap beside the pool -/
def hid (p : Addr) (H : Hp) : Hp := fun a => if a = p then none else H a
def But (p : Addr) (H H' : Hp) : Prop := Same (hid p H) (hid p H')
theorem hid_at {p a : Addr} {H : Hp} (h : a ≠ p) : hid p H a = H a := if_neg h
theorem hid_le (p : Addr) (H : Hp) : Same (hid p H) H := fun a o h => by
  by_cases e : a = p
  · unfold hid at h; rw [if_pos e] at h; cases h
  · rw [hid_at e] at h; exact h
theorem hid_some {p a : Addr} {H : Hp} {o : HO} (h : hid p H a = some o) : a ≠ p := fun e => by unfold hid at h; rw [if_pos e] at h; cases h
theorem _root_.L2.Same.but {H H' : Hp} (s : Same H H') (p : Addr) : But p H H' := fun a o h => by
  have e := hid_some h
  rw [hid_at e] at h ⊢; exact s a o h
theorem But.refl (p : Addr) (H : Hp) : But p H H := Same.refl _
theorem But.trans {p : Addr} {H H1 H2 : Hp} (a : But p H H1) (b : But p H1 H2) : But p H H2 := Same.trans a b
theorem But.at {p a : Addr} {H H' : Hp} {o : HO} (b : But p H H') (h : H a = some o) (n : a ≠ p) : H' a = some o := by
  have := b a o (by rw [hid_at n]; exact h)
  rwa [hid_at n] at this
theorem _root_.L2.Same.upd_new {H0 H : Hp} {a : Addr} {o : HO} (h : Same H0 H) (ha : H0 a = none) : Same H0 (upd H a o) := fun b u e => by
  rw [upd_ne (ne_of_none e ha)]; exact h b u e
theorem Same.one {H : Hp} {a : Addr} {o : HO} (h : H a = none) : Same H (upd H a o) := (Same.refl H).upd_new h
theorem But.set {p : Addr} {H : Hp} {o : HO} : But p H (upd H p o) := fun a u h => by
  have e := hid_some h
  rw [hid_at e] at h ⊢
  rw [upd_ne e]; exact h
theorem _root_.L2.Same.sqt {K : PySem.W.Frag} {H H' : Hp} {a : Addr} {xs : List V} (e : Same H H') (h : SqT K H a xs) : SqT K H' a xs := by
  rcases h with (h | ⟨o, h⟩) | h
  · exact .inl (.inl (e _ _ h))
  · exact .inl (.inr ⟨o, e _ _ h⟩)
  · exact .inr h
theorem sqt_new {K : PySem.W.Frag} {H : Hp} {a : Addr} {xs : List V} (h : H a = some (.tup xs)) : SqT K H a xs := .inl (.inl h)
theorem sql_new {K : PySem.W.Frag} {H : Hp} {a : Addr} {xs : List V} (h : H a = some (.lst xs)) : SqL K H a xs := .inl (.inl h)
mutual
theorem dp_same {K : PySem.W.Frag} {H H' : Hp} (s : Same H H') : ∀ (d : PyData) (v : V), Dp K H v d → Dp K H' v d
  | .none, _, h => by cases h; exact .non
  | .bool b, _, h => by cases h; exact .bl b
  | .int i, _, h => by cases h; exact .int i
  | .str x, _, h => by cases h; exact .str x
  | .list ds, _, h => by cases h with | lst hs ha => exact .lst (s.seq hs) (dps_same s ds _ ha)
  | .tuple ds, _, h => by cases h with | tup hs ha => exact .tup (s.sqt hs) (dps_same s ds _ ha)
  | .dict _, _, h => by cases h
theorem dps_same {K : PySem.W.Frag} {H H' : Hp} (s : Same H H') : ∀ (ds : List PyData) (vs : List V), DpAll K H vs ds → DpAll K H' vs ds
  | [], _, h => by cases h; exact .nil
  | d :: ds, _, h => by cases h with | cons h1 h2 => exact .cons (dp_same s d _ h1) (dps_same s ds _ h2)
end
theorem _root_.L2.Dp.same {K : PySem.W.Frag} {H H' : Hp} {v : V} {d : PyData} (h : Dp K H v d) (s : Same H H') : Dp K H' v d := dp_same s d v h
theorem _root_.L2.DpAll.same {K : PySem.W.Frag} {H H' : Hp} {v : List V} {d : List PyData} (h : DpAll K H v d) (s : Same H H') : DpAll K H' v d := dps_same s d v h
theorem dpa_len {K : PySem.W.Frag} {H : Hp} : ∀ {v : List V} {d : List PyData}, DpAll K H v d → v.length = d.length
  | _, _, .nil => rfl
  | _, _, .cons _ t => by rw [List.length_cons, List.length_cons, dpa_len t]
theorem dpa_at {K : PySem.W.Frag} {H : Hp} : ∀ {vs : List V} {ds : List PyData} {i : Nat} {v : V}, DpAll K H vs ds → vs[i]? = some v → ∃ d, ds[i]? = some d ∧ Dp K H v d
  | _, _, i, v, .nil, h => by simp at h
  | _, _, 0, v, .cons h1 _, h => by cases h; exact ⟨_, rfl, h1⟩
  | _, _, i + 1, v, .cons _ t, h => dpa_at (i := i) t h
theorem _root_.L2.DpAll.len {K : PySem.W.Frag} {H : Hp} {v : List V} {d : List PyData} (h : DpAll K H v d) : v.length = d.length := dpa_len h
theorem _root_.L2.DpAll.at {K : PySem.W.Frag} {H : Hp} {vs : List V} {ds : List PyData} {i : Nat} {v : V} (h : DpAll K H vs ds) (e : vs[i]? = some v) : ∃ d, ds[i]? = some d ∧ Dp K H v d := dpa_at h e
theorem _root_.L2.DpAll.at2 {K : PySem.W.Frag} {H : Hp} {vs : List V} {ds : List PyData} {i : Nat} {d : PyData} (h : DpAll K H vs ds) (e : ds[i]? = some d) : ∃ v, vs[i]? = some v ∧ Dp K H v d := by
  have hl := h.len
  have hi : i < ds.length := (List.getElem?_eq_some_iff.mp e).1
  obtain ⟨d', e', hd⟩ := h.at (i := i) (v := vs[i]) (List.getElem?_eq_getElem (by omega))
  rw [e] at e'; cases e'
  exact ⟨_, List.getElem?_eq_getElem (by omega), hd⟩
theorem dpa_app {K : PySem.W.Frag} {H : Hp} : ∀ {v : List V} {d : List PyData} {v2 : List V} {d2 : List PyData}, DpAll K H v d → DpAll K H v2 d2 → DpAll K H (v ++ v2) (d ++ d2)
  | _, _, _, _, .nil, h => h
  | _, _, _, _, .cons a t, h => .cons a (dpa_app t h)
theorem _root_.L2.DpAll.app {K : PySem.W.Frag} {H : Hp} {v : List V} {d : List PyData} {v2 : List V} {d2 : List PyData} (a : DpAll K H v d) (b : DpAll K H v2 d2) : DpAll K H (v ++ v2) (d ++ d2) := dpa_app a b
theorem dps_of {K : PySem.W.Frag} {H : Hp} : ∀ {vs : List V} {ds : List PyData}, vs.length = ds.length → (∀ (i : Nat) (v : V) (d : PyData), vs[i]? = some v → ds[i]? = some d → Dp K H v d) → DpAll K H vs ds
  | [], [], _, _ => .nil
  | [], _ :: _, h, _ => by simp at h
  | _ :: _, [], h, _ => by simp at h
  | v :: vs, d :: ds, h, g => .cons (g 0 v d rfl rfl) (dps_of (by simpa using h) fun i v' d' h1 h2 => g (i + 1) v' d' h1 h2)
theorem dps_take {K : PySem.W.Frag} {H : Hp} {vs : List V} {ds : List PyData} (n : Nat) (h : DpAll K H vs ds) : DpAll K H (vs.take n) (ds.take n) :=
  dps_of (by rw [List.length_take, List.length_take, h.len]) fun i v d h1 h2 => by
    rw [List.getElem?_take] at h1 h2
    split at h1
    · rename_i hlt
      rw [if_pos hlt] at h2
      obtain ⟨d', e, hd⟩ := h.at h1
      rw [h2] at e; cases e; exact hd
    · cases h1
theorem dps_drop {K : PySem.W.Frag} {H : Hp} {vs : List V} {ds : List PyData} (n : Nat) (h : DpAll K H vs ds) : DpAll K H (vs.drop n) (ds.drop n) :=
  dps_of (by rw [List.length_drop, List.length_drop, h.len]) fun i v d h1 h2 => by
    rw [List.getElem?_drop] at h1 h2
    obtain ⟨d', e, hd⟩ := h.at h1
    rw [h2] at e; cases e; exact hd
/-! kinds of data, for isinstance -/
def tyD : PyData → String
  | .none => "NoneType" | .bool _ => "bool" | .int _ => "int" | .str _ => "str" | .list _ => "list" | .tuple _ => "tuple" | .dict _ => "dict"
/-- a value that is data, or a dict -/
def Vx (K : PySem.W.Frag) (H : Hp) (v : V) (d : PyData) : Prop := Dp K H v d ∨ (∃ kvs a, d = .dict kvs ∧ v = .ref a ∧ ∃ ks, H a = some (.dK ks))
theorem _root_.L2.Dp.x {K : PySem.W.Frag} {H : Hp} {v : V} {d : PyData} (h : Dp K H v d) : Vx K H v d := .inl h
theorem Vx.same {K : PySem.W.Frag} {H H' : Hp} {v : V} {d : PyData} (h : Vx K H v d) (s : Same H H') : Vx K H' v d := by
  rcases h with h | ⟨k, a, e1, e2, ks, e3⟩
  · exact .inl (h.same s)
  · exact .inr ⟨k, a, e1, e2, ks, s _ _ e3⟩
theorem tyx {K : PySem.W.Frag} {H : Hp} {v : V} {d : PyData} (h : Vx K H v d) : TyX K H v (.type (tyD d)) := by
  rcases h with h | ⟨k, a, rfl, rfl, ks, e3⟩
  · cases h with
    | non => exact .base .non
    | bl b => exact .base (.bl b)
    | int i => exact .base (.int i)
    | str x => exact .base (.str x)
    | lst hs _ =>
      rcases hs with (h | ⟨o, h⟩) | ⟨o, its, n, h1, h2, _⟩
      · exact .base (.lst h)
      · exact .base (.frz h)
      · exact .kList h1 h2
    | tup hs _ =>
      rcases hs with (h | ⟨o, h⟩) | ⟨o, its, n, h1, h2, _⟩
      · exact .base (.tup h)
      · exact .fTuple h
      · exact .kTuple h1 h2
  · exact .base (.dK e3)
def isTup : PyData → Bool
  | .tuple _ => true
  | _ => false
def isLst : PyData → Bool
  | .list _ => true
  | _ => false
def isStr : PyData → Bool
  | .str _ => true
  | _ => false
def isInt : PyData → Bool
  | .int _ | .bool _ => true
  | _ => false
def isBool : PyData → Bool
  | .bool _ => true
  | _ => false
theorem ki_tup {K : PySem.W.Frag} (d : PyData) : PySem.W.kitOne K (.type (tyD d)) (.type "tuple") = some (isTup d) := kit_ty (by cases d <;> (simp only [tyD, isTup]; decide +kernel))
theorem ki_lst {K : PySem.W.Frag} (d : PyData) : PySem.W.kitOne K (.type (tyD d)) (.type "list") = some (isLst d) := kit_ty (by cases d <;> (simp only [tyD, isLst]; decide +kernel))
theorem ki_str {K : PySem.W.Frag} (d : PyData) : PySem.W.kitOne K (.type (tyD d)) (.type "str") = some (isStr d) := kit_ty (by cases d <;> (simp only [tyD, isStr]; decide +kernel))
theorem ki_int {K : PySem.W.Frag} (d : PyData) : PySem.W.kitOne K (.type (tyD d)) (.type "int") = some (isInt d) := kit_ty (by cases d <;> (simp only [tyD, isInt]; decide +kernel))
theorem ki_bool {K : PySem.W.Frag} (d : PyData) : PySem.W.kitOne K (.type (tyD d)) (.type "bool") = some (isBool d) := kit_ty (by cases d <;> (simp only [tyD, isBool]; decide +kernel))
/-! comprehensions: turn i gives c i, nothing or one -/
def LcS (H1 : Hp) (D : Addr) (c : Nat → List V) (i : Nat) (H : Hp) : Prop := Same H1 H ∧ H D = some (.lst ((List.range i).flatMap c)) ∧ ∀ j, (c j).length ≤ 1
theorem LcS.zero {H1 : Hp} {D : Addr} {c : Nat → List V} (hD : H1 D = none) (h : ∀ j, (c j).length ≤ 1) : LcS H1 D c 0 (upd H1 D (.lst [])) := ⟨Same.one hD, upd_same, h⟩
theorem LcS.lens {c : Nat → List V} (h : ∀ j, (c j).length ≤ 1) : ∀ i, ((List.range i).flatMap c).length ≤ i
  | 0 => by simp
  | i + 1 => by
    have := LcS.lens h i
    have := h i
    have e : [i].flatMap c = c i := by simp
    rw [List.range_succ, List.flatMap_append, List.length_append, e]
    omega
theorem LcS.yes {H1 H H4 : Hp} {D : Addr} {c : Nat → List V} {i : Nat} {y : V} (h : LcS H1 D c i H) (hD : H1 D = none) (s : Same H H4) (e : c i = [y]) (hi : i < sizeLine) :
    ∃ acc, H4 D = some (.lst acc) ∧ acc.length < sizeLine ∧ LcS H1 D c (i + 1) (upd H4 D (.lst (acc ++ [y]))) := by
  obtain ⟨a, b, g⟩ := h
  refine ⟨_, s _ _ b, Nat.lt_of_le_of_lt (LcS.lens g i) hi, (a.trans s).upd_new hD, ?_, g⟩
  rw [upd_same, List.range_succ, List.flatMap_append]
  simp [e]
theorem LcS.no {H1 H H3 : Hp} {D : Addr} {c : Nat → List V} {i : Nat} (h : LcS H1 D c i H) (s : Same H H3) (e : c i = []) : LcS H1 D c (i + 1) H3 := by
  obtain ⟨a, b, g⟩ := h
  refine ⟨a.trans s, ?_, g⟩
  rw [s _ _ b, List.range_succ, List.flatMap_append]
  simp [e]
theorem flat_one {α : Type} (f : Nat → α) : ∀ n, (List.range n).flatMap (fun i => [f i]) = (List.range n).map f
  | 0 => rfl
  | n + 1 => by rw [List.range_succ, List.flatMap_append, List.map_append, flat_one f n]; rfl
/-- the list that a filter leaves is empty -/
theorem flat_nil {α : Type} (p : Nat → Bool) (f : Nat → α) (n : Nat) : (((List.range n).flatMap fun i => if p i then [f i] else []).length = 0) ↔ (List.range n).all (fun i => !p i) = true := by
  rw [List.length_eq_zero_iff, List.flatMap_eq_nil_iff, List.all_eq_true]
  refine ⟨fun h i hi => ?_, fun h i hi => ?_⟩
  · have := h i hi
    cases q : p i
    · rfl
    · rw [q] at this; simp at this
  · have := h i hi
    cases q : p i
    · simp
    · rw [q] at this; simp at this
theorem all_ix {α : Type} (p : α → Bool) (l : List α) (d : α) : (List.range l.length).all (fun i => p (l.getD i d)) = l.all p := by
  rw [Bool.eq_iff_iff, List.all_eq_true, List.all_eq_true]
  refine ⟨fun h x hx => ?_, fun h i hi => ?_⟩
  · obtain ⟨i, hi, e⟩ := List.getElem_of_mem hx
    have := h i (List.mem_range.mpr hi)
    rw [List.getD_eq_getElem?_getD, List.getElem?_eq_getElem hi] at this
    rw [← e]; exact this
  · rw [List.getD_eq_getElem?_getD, List.getElem?_eq_getElem (List.mem_range.mp hi)]
    exact h _ (List.getElem_mem _)
/-! code that is not reached -/
theorem pe_dead {X : Cx} {e : Expr} : PE X e (fun _ _ _ => False) := ⟨fun _ _ _ _ _ _ h => h.elim⟩
theorem pt_dead {X : Cx} {e : Expr} : PT X e (fun _ _ _ => False) := ⟨fun _ _ _ _ _ _ h => h.elim⟩
theorem pw_dead {X : Cx} {e : Expr} : PW X e (fun _ _ _ => False) := ⟨fun _ _ _ _ _ _ _ h => h.elim⟩
theorem ps_dead {X : Cx} {e : Stmt} : PS X e (fun _ _ _ => False) := ⟨fun _ _ _ _ _ _ h => h.elim⟩
theorem pss_dead {X : Cx} {e : List Stmt} : PSs X e (fun _ _ _ => False) := ⟨fun _ _ _ _ _ _ h => h.elim⟩
/-! a dict of the module as a table -/
theorem ix_kd {X : Cx} {d : Addr} {es : Array DictEntry} {n : Nat} (D : KDict X.K X.w d es n) : IxR X (fun x y H Q => ∃ (z : Str) (u0 : Value) (v0 : V), x = .ref d ∧ y = .str z ∧ PySem.W.nsIn X.K d z = some (some u0) ∧ RelV v0 u0 ∧ Q v0 H) := by
  intro value slice pins s σ H x y v u Q I rx ry h hs
  have h2 := h
  obtain ⟨z, u0, v0, rfl, rfl, e, r, q⟩ := h2
  cases rx
  have rx2 : RelV (V.ref d) (Value.ref d) := rfl
  exact tail_any (kd_type D I) PySem.F.slot_dict_getitem.lookup (op_item_kd D pins s σ H _ _ _ _ Q I rx2 ry h) hs
end K71

set_option Elab.async false
set_option linter.all false
set_option maxRecDepth 100000
set_option maxHeartbeats 4000000
/-! k71: what is known beside Txt; raising of exceptions with an own __init__ -/
namespace K71
open PySem PySem.Spec PyProof.Rows L2
/-- an __init__ of an own exception: it makes a dict that holds fs -/
def spExc (C : Addr) (ok : List V → Prop) (fs : List V → List (Str × V)) : Sp := fun vs H Q _ => ∃ (a : Addr) (ws : List V), vs = .ref a :: ws ∧ ok ws ∧ H a = some (exo a C none) ∧
  ∀ H' d, H d = none → d ≠ a → H' a = some (exo a C (some d)) → H' d = some (exd d (fs ws)) → (∀ b, b ≠ a → b ≠ d → H' b = H b) → Q .non H'
def okI : List V → Prop := fun ws => ∃ i : Int, ws = [.int i] ∧ i.natAbs < 10000000
def okR : List V → Prop := fun ws => ∃ (k : Str) (f i : Int), ws = [.str k, .int f, .int i] ∧ k.length ≤ 100 ∧ f.natAbs < 10000000 ∧ i.natAbs < 10000000
def fsAt : List V → List (Str × V)
  | [v] => [("at", v)]
  | _ => []
def fsLine : List V → List (Str × V)
  | [v] => [("line", v)]
  | _ => []
def fsRef : List V → List (Str × V)
  | [k, f, i] => [("at", i), ("function", f), ("kind", k)]
  | _ => []
structure Ext (P : Program) (w : World) (K : PySem.W.Frag) (mg : Str → Option Value) : Type where
  kO : ∃ es n, KDict K w (He.ga K "OPS") es n
  vO : ∃ u, PySem.W.nsIn K (He.ga K "OPS") "tick" = some (some u) ∧ RelV (.str "") u
  kP : ∃ es n, KDict K w (He.ga K "PIECES") es n
  vPt : ∃ u, PySem.W.nsIn K (He.ga K "PIECES") "tick" = some (some u) ∧ RelV (.str "") u
  vPg : ∃ u, PySem.W.nsIn K (He.ga K "PIECES") "give" = some (some u) ∧ RelV (.str "b") u
  d_BadImage : FuncData
  f_BadImage : ∀ base : Heap, FnOk P w K mg base CX0 6 (iA K "BadImage") d_BadImage ["self", "at"] (spExc (He.ga K "BadImage") okI fsAt)
  b_BadImage : Binds K d_BadImage ["self", "at"] []
  o_BadImage : OexC K (He.ga K "BadImage")
  i_BadImage : PySem.W.findIn K (.ref (He.ga K "BadImage")) "__init__" = some (some (.ref (iA K "BadImage")))
  t_BadImage : PySem.W.typeIn K (.ref (iA K "BadImage")) = some (.type "function")
  d_BadLine : FuncData
  f_BadLine : ∀ base : Heap, FnOk P w K mg base CX0 6 (iA K "BadLine") d_BadLine ["self", "line"] (spExc (He.ga K "BadLine") okI fsLine)
  b_BadLine : Binds K d_BadLine ["self", "line"] []
  o_BadLine : OexC K (He.ga K "BadLine")
  i_BadLine : PySem.W.findIn K (.ref (He.ga K "BadLine")) "__init__" = some (some (.ref (iA K "BadLine")))
  t_BadLine : PySem.W.typeIn K (.ref (iA K "BadLine")) = some (.type "function")
  d_Refused : FuncData
  f_Refused : ∀ base : Heap, FnOk P w K mg base CX0 6 (iA K "Refused") d_Refused ["self", "kind", "function", "at"] (spExc (He.ga K "Refused") okR fsRef)
  b_Refused : Binds K d_Refused ["self", "kind", "function", "at"] []
  o_Refused : OexC K (He.ga K "Refused")
  i_Refused : PySem.W.findIn K (.ref (He.ga K "Refused")) "__init__" = some (some (.ref (iA K "Refused")))
  t_Refused : PySem.W.typeIn K (.ref (iA K "Refused")) = some (.type "function")
  ec : ∀ D ∈ allX, ExcC K (He.ga K D)
  ki : ∀ D ∈ allX, ∀ C ∈ allX, PySem.W.kitOne K (.ref (He.ga K D)) (.ref (He.ga K C)) = some (decide (D = C))
  kv : ∀ D ∈ allX, PySem.W.kitOne K (.ref (He.ga K D)) (.type "ValueError") = some true
  xf : ∀ D ∈ (["BadImage", "BadLine", "Refused"] : List Str), XfC K (He.ga K D)
  nfI : PySem.W.findIn K (.ref (He.ga K "BadImage")) "at" = some none
  nfL : PySem.W.findIn K (.ref (He.ga K "BadLine")) "line" = some none
  nfK : PySem.W.findIn K (.ref (He.ga K "Refused")) "kind" = some none
  nfF : PySem.W.findIn K (.ref (He.ga K "Refused")) "function" = some none
  nfA : PySem.W.findIn K (.ref (He.ga K "Refused")) "at" = some none
/-- the making of such an error, as the raise wants it -/
theorem mk_exc {C : Addr} {ok : List V → Prop} {fs : List V → List (Str × V)} {ws : List V} {a : Addr} {H1 : Hp} {E : XK} {E2 : XK} (hk : ok ws) (hn : H1 a = none) (h : ∀ H' d, Same H1 H' → H' d = some (.xd (fs ws)) → E (.ref C) (some d) H') :
    spExc C ok fs (.ref a :: ws) (upd H1 a (exo a C none)) (fun v H2 => v = .non ∧ ∃ (d : Addr) (fs : List (Str × V)), H2 a = some (exo a C (some d)) ∧ H2 d = some (exd d fs) ∧ H1 d = none ∧ E (.ref C) (some d) (upd (del H2 a) d (.xd fs))) E2 := by
  refine ⟨a, ws, rfl, hk, upd_same, fun H' d hd hda h1 h2 h3 => ⟨rfl, d, _, h1, h2, ?_, h _ d ?_ upd_same⟩⟩
  · rwa [upd_ne hda] at hd
  · intro b o hb
    have hba : b ≠ a := fun z => by rw [z, hn] at hb; cases hb
    have hbd : b ≠ d := fun z => by
      rw [upd_ne hda] at hd
      rw [z, hd] at hb; cases hb
    rw [upd_ne hbd, del_ne hba, h3 b hba hbd, upd_ne hba]
    exact hb
end K71

set_option Elab.async false
set_option linter.all false
set_option maxRecDepth 100000
set_option maxHeartbeats 4000000
namespace R71
open PySem PySem.Spec PyProof.Rows L2
/-- a dict comprehension of two clauses over walks -/
theorem dc2_it {J : It} {n : Nat} {G : Hp → Prop} {Y : Nat → Hp → V → Hp → Prop} (wk : Walk J n G Y) {Q : VK} {g : TG} {tt : TT} {wi1 : TI} {g1 : TG} {tt1 : TT} {tk tv : TE} {vs vs1 : List Nat} {σ : L2.St} {H1 : Hp} {D : Addr} (Pv : Nat → Hp → Prop) (h0 : Pv 0 (upd H1 D (.dT []))) (hG : ∀ i H, i ≤ n → Pv i H → G H)
    (hs : ∀ i x H H', i < n → Pv i H → Y i H x H' → g x (wipe σ vs) H' fun σ2 H2 => wipe σ2 vs = wipe σ vs ∧ tt σ2 H2 fun b H3 =>
      if b = true then wi1 σ2 H3 fun J1 H4 => ∃ W1 : Nat → Nat → Hp → Prop, (∃ m, W1 0 m H4) ∧ ∀ j k H, W1 j k H →
        (J1.stop j H ∧ Pv (i + 1) H) ∨ (J1.go j H ∧ ∃ Nx1 : Hp → Prop, (∀ H', Nx1 H' → ∃ k', k' < k ∧ W1 (j + 1) k' H') ∧ ∀ x H', J1.yld j H x H' → g1 x (wipe σ2 vs1) H' fun σ3 H5 => wipe σ3 vs1 = wipe σ2 vs1 ∧ tt1 σ3 H5 fun b H6 =>
          if b = true then tk σ3 H6 fun y H7 => tv σ3 H7 fun z H8 => ∃ H9, DPut H8 D y z H9 ∧ Nx1 H9 else Nx1 H6)
      else Pv (i + 1) H3) (hd : ∀ H, Pv n H → Q (.ref D) H) :
    ∃ W : Nat → Nat → Hp → Prop, (∃ m, W 0 m (upd H1 D (.dT []))) ∧ ∀ i m H, W i m H →
      (J.stop i H ∧ Q (.ref D) H) ∨ (J.go i H ∧ ∃ Nx : Hp → Prop, (∀ H', Nx H' → ∃ m', m' < m ∧ W (i + 1) m' H') ∧ ∀ x H', J.yld i H x H' → g x (wipe σ vs) H' fun σ2 H2 => wipe σ2 vs = wipe σ vs ∧ tt σ2 H2 fun b H3 =>
        if b = true then wi1 σ2 H3 fun J1 H4 => ∃ W1 : Nat → Nat → Hp → Prop, (∃ m, W1 0 m H4) ∧ ∀ j k H, W1 j k H →
          (J1.stop j H ∧ Nx H) ∨ (J1.go j H ∧ ∃ Nx1 : Hp → Prop, (∀ H', Nx1 H' → ∃ k', k' < k ∧ W1 (j + 1) k' H') ∧ ∀ x H', J1.yld j H x H' → g1 x (wipe σ2 vs1) H' fun σ3 H5 => wipe σ3 vs1 = wipe σ2 vs1 ∧ tt1 σ3 H5 fun b H6 =>
            if b = true then tk σ3 H6 fun y H7 => tv σ3 H7 fun z H8 => ∃ H9, DPut H8 D y z H9 ∧ Nx1 H9 else Nx1 H6)
        else Nx H3) := by
  refine ⟨fun i m H => m = n - i ∧ i ≤ n ∧ Pv i H, ⟨n, by simp, Nat.zero_le _, h0⟩, ?_⟩
  rintro i m H ⟨rfl, hi, p⟩
  have q := hG i H hi p
  by_cases hlt : i < n
  · exact .inr ⟨wk.goes i H hlt q, Pv (i + 1), fun H' p' => ⟨n - (i + 1), by omega, rfl, hlt, p'⟩, fun x H' y => hs i x H H' hlt p (wk.yields i H x H' hlt q y)⟩
  · have e : i = n := by omega
    subst e
    exact .inl ⟨wk.stops H q, hd H p⟩
/-- the second clause -/
theorem dc2_in {J1 : It} {n : Nat} {G : Hp → Prop} {Y : Nat → Hp → V → Hp → Prop} (wk : Walk J1 n G Y) {g1 : TG} {tt1 : TT} {tk tv : TE} {vs1 : List Nat} {σ2 : L2.St} {H4 : Hp} {D : Addr} {Nx : Hp → Prop} (Pv : Nat → Hp → Prop) (h0 : Pv 0 H4) (hG : ∀ i H, i ≤ n → Pv i H → G H)
    (hs : ∀ j x H H', j < n → Pv j H → Y j H x H' → g1 x (wipe σ2 vs1) H' fun σ3 H5 => wipe σ3 vs1 = wipe σ2 vs1 ∧ tt1 σ3 H5 fun b H6 =>
          if b = true then tk σ3 H6 fun y H7 => tv σ3 H7 fun z H8 => ∃ H9, DPut H8 D y z H9 ∧ Pv (j + 1) H9 else Pv (j + 1) H6) (hd : ∀ H, Pv n H → Nx H) :
    ∃ W1 : Nat → Nat → Hp → Prop, (∃ m, W1 0 m H4) ∧ ∀ j k H, W1 j k H →
          (J1.stop j H ∧ Nx H) ∨ (J1.go j H ∧ ∃ Nx1 : Hp → Prop, (∀ H', Nx1 H' → ∃ k', k' < k ∧ W1 (j + 1) k' H') ∧ ∀ x H', J1.yld j H x H' → g1 x (wipe σ2 vs1) H' fun σ3 H5 => wipe σ3 vs1 = wipe σ2 vs1 ∧ tt1 σ3 H5 fun b H6 =>
            if b = true then tk σ3 H6 fun y H7 => tv σ3 H7 fun z H8 => ∃ H9, DPut H8 D y z H9 ∧ Nx1 H9 else Nx1 H6) := by
  refine ⟨fun i m H => m = n - i ∧ i ≤ n ∧ Pv i H, ⟨n, by simp, Nat.zero_le _, h0⟩, ?_⟩
  rintro i m H ⟨rfl, hi, p⟩
  have q := hG i H hi p
  by_cases hlt : i < n
  · exact .inr ⟨wk.goes i H hlt q, Pv (i + 1), fun H' p' => ⟨n - (i + 1), by omega, rfl, hlt, p'⟩, fun x H' y => hs i x H H' hlt p (wk.yields i H x H' hlt q y)⟩
  · have e : i = n := by omega
    subst e
    exact .inl ⟨wk.stops H q, hd H p⟩
end R71

set_option Elab.async false
set_option linter.all false
set_option maxRecDepth 100000
set_option maxHeartbeats 4000000
namespace K71
open PySem PySem.Spec PyProof.Rows L2
theorem tys {K : PySem.W.Frag} {H : Hp} {p : Addr} {xs : List V} (hs : SqT K H p xs) : TyX K H (.ref p) (.type "tuple") := by
  rcases hs with (h | ⟨o, h⟩) | ⟨o, its, n, h1, h2, _⟩
  · exact .base (.tup h)
  · exact .fTuple h
  · exact .kTuple h1 h2
section
variable {P : Program} {w : World} {K : PySem.W.Frag} {mg : Str → Option Value} {base : Heap} (T : Txt K mg)
include T
def spIsI : Sp := fun vs H Q _ => ∃ i : Int, vs = [.int i] ∧ Q (.bl true) H
theorem ok_is_integer : FnOk P w K mg base CX0 1 (He.ga K "is_integer") T.d_is_integer ["value"] spIsI := by
  refine T.F_is_integer.ok sc_is_integer (fun vs H Q E h => ?_) (fun cdv A outer s H vs Q E hr h => ?_)
  · obtain ⟨i, rfl, _⟩ := h; rfl
  · obtain ⟨i, rfl, q⟩ := h
    refine ⟨_, PSs.nox (pss_one (ps_ret (pe_and (pe_callB (r := rIsi K) call_isi (by rfl) T.isinstance (by decide +kernel) (pa_cons (pv 0) (pa_cons (pe_bltn (v := .ty "int") rfl T.int (by decide +kernel) rfl) pa_nil))) (pe_one (pe_not (pe_callB (r := rIsi K) call_isi (by rfl) T.isinstance (by decide +kernel) (pa_cons (pv 0) (pa_cons (pe_bltn (v := .ty "bool") rfl T.bool (by decide +kernel) rfl) pa_nil)))))))), ?_⟩
    refine ⟨_, rfl, _, _, _, _, true, rfl, .ty _, .base (.int i), ki_int (.int i), _, rfl, iteT ?_⟩
    exact ⟨_, rfl, _, _, _, _, false, rfl, .ty _, .base (.int i), ki_bool (.int i), _, rfl, q⟩
def spIsN : Sp := fun vs H Q _ => ∃ i lo hi : Int, vs = [.int i, .int lo, .int hi] ∧ lo ≤ i ∧ i ≤ hi ∧ Q (.bl true) H
theorem ok_is_number : FnOk P w K mg base CX0 2 (He.ga K "is_number") T.d_is_number ["value", "low", "high"] spIsN := by
  have G_is_integer := ok_is_integer (P := P) (w := w) (base := base) T
  refine T.F_is_number.ok sc_is_number (fun vs H Q E h => ?_) (fun cdv A outer s H vs Q E hr h => ?_)
  · obtain ⟨i, lo, hi, rfl, _⟩ := h; rfl
  · obtain ⟨i, lo, hi, rfl, h1, h2, q⟩ := h
    refine ⟨_, PSs.nox (pss_one (ps_ret (pe_and (pe_call G_is_integer (hr.mono (by omega)) (by rfl) T.g_is_integer T.F_is_integer.kp T.b_is_integer .nil pass0 (pa_cons (pv 0) pa_nil)) (pe_one (pe_chain op_le op_le (pv 1) (pv 0) (pv 2)))))), ?_⟩
    refine ⟨_, rfl, _, rfl, ?_⟩
    refine ⟨_, rfl, iteT ⟨_, rfl, _, rfl, _, _, rfl, rfl, _, rfl, ?_⟩⟩
    rw [decide_eq_true h1]
    refine iteT ⟨_, rfl, _, _, rfl, rfl, ?_⟩
    show Q (V.bl (decide (i ≤ hi))) H
    rw [decide_eq_true h2]
    exact q
def spIsT (K : PySem.W.Frag) : Sp := fun vs H Q _ => ∃ (p : Addr) (xs : List V), vs = [.ref p, .int (xs.length : Nat)] ∧ SqT K H p xs ∧ Q (.bl true) H
theorem ok_is_tuple : FnOk P w K mg base CX0 1 (He.ga K "is_tuple") T.d_is_tuple ["value", "size"] (spIsT K) := by
  refine T.F_is_tuple.ok sc_is_tuple (fun vs H Q E h => ?_) (fun cdv A outer s H vs Q E hr h => ?_)
  · obtain ⟨p, xs, rfl, _⟩ := h; rfl
  · obtain ⟨p, xs, rfl, hp, q⟩ := h
    refine ⟨_, PSs.nox (pss_one (ps_ret (pe_and (pe_callB (r := rIsi K) call_isi (by rfl) T.isinstance (by decide +kernel) (pa_cons (pv 0) (pa_cons (pe_bltn (v := .ty "tuple") rfl T.tuple (by decide +kernel) rfl) pa_nil))) (pe_one (pe_cmpR op_eq (pe_callB (r := rLenS K) call_len_seq (by rfl) T.len (by decide +kernel) (pa_cons (pv 0) pa_nil)) (pv 1) (nomark _)))))), ?_⟩
    refine ⟨_, rfl, _, _, _, _, true, rfl, .ty _, tys hp, ki_tup (.tuple []), _, rfl, iteT ⟨_, rfl, p, xs, rfl, .inr hp, _, rfl, rfl, ?_⟩⟩
    show Q (V.bl (decide (V.int (xs.length : Nat) = V.int (xs.length : Nat)))) H
    rw [decide_eq_true rfl]; exact q
def spIsW : Sp := fun vs H Q _ => ∃ z : Str, vs = [.str z] ∧ (z = "a" ∨ z = "f") ∧ ∀ H', Same H H' → Q (.bl true) H'
theorem ok_is_word_name : FnOk P w K mg base CX0 1 (He.ga K "is_word_name") T.d_is_word_name ["value"] spIsW := by
  refine T.F_is_word_name.ok sc_is_word_name (fun vs H Q E h => ?_) (fun cdv A outer s H vs Q E hr h => ?_)
  · obtain ⟨z, rfl, _⟩ := h; rfl
  · obtain ⟨z, rfl, hz, q⟩ := h
    refine ⟨_, PSs.nox (pss_one (ps_ret (pe_and (pe_callB (r := rIsi K) call_isi (by rfl) T.isinstance (by decide +kernel) (pa_cons (pv 0) (pa_cons (pe_bltn (v := .ty "str") rfl T.str (by decide +kernel) rfl) pa_nil))) (pe_and (pe_chain op_le op_le pe_int (pe_callB call_len_str (by rfl) T.len (by decide +kernel) (pa_cons (pv 0) pa_nil)) (pe_gi (i := 12) rfl T.LONGEST_NAME)) (pe_one (pe_callB (r := rAll K) (cr_all rfl) (by rfl) T.all (by decide +kernel) (pa_cons (pe_lc (own := [("letter", 1)]) (g := gName 1) (tt := tYes) (by rfl) sc_is_word_name.nd (pi_str (pv 0)) (blkOk_by (own := [("letter", 1)]) (N := ["value", "letter"]) (sc := defScope s_is_word_name) (by decide +kernel)) (fun _ _ _ _ _ => (pg_name (i := 1) sc_is_word_name.nd rfl (.inl rfl))) (fun _ _ _ _ _ => pts_nil) (fun _ _ _ _ _ => (pe_cmpR op_in_str (pv 1) (pe_gs rfl T.LETTERS_shapes) (by rfl)))) pa_nil))))))), ?_⟩
    have hl : z.length = 1 := by rcases hz with rfl | rfl <;> decide +kernel
    refine ⟨_, rfl, _, _, _, _, true, rfl, .ty _, .base (.str z), ki_str (.str z), _, rfl, iteT ?_⟩
    refine ⟨_, rfl, _, rfl, (by rw [hl]; decide), _, _, rfl, rfl, _, rfl, ?_⟩
    rw [hl]
    refine iteT ⟨_, _, rfl, rfl, _, rfl, iteT ?_⟩
    refine ⟨_, rfl, _, rfl, fun D hD => ?_⟩
    refine lc_it walk_str (LcS H D fun _ => [.bl true]) (LcS.zero hD fun _ => by simp) (fun _ _ _ _ => trivial) (fun i x H3 H4 hi hP hy => ?_) (fun H3 hP => ?_)
    · obtain ⟨rfl, c, hc, rfl⟩ := hy
      have hi0 : i = 0 := by
        have : z.cps.size = 1 := hl
        omega
      subst hi0
      have hcc : (!(Builtin.Str.occurrences "abcdefghijklmnopqrstuvwxyz" ⟨#[c]⟩ 0 ("abcdefghijklmnopqrstuvwxyz" : Str).length 1).isEmpty) = true := by
        rcases hz with rfl | rfl
        · have : c = 97 := by have h2 : (("a" : Str).cps[0]?) = some 97 := by decide +kernel
                              rw [h2] at hc; exact (Option.some.inj hc).symm
          subst this; decide +kernel
        · have : c = 102 := by have h2 : (("f" : Str).cps[0]?) = some 102 := by decide +kernel
                               rw [h2] at hc; exact (Option.some.inj hc).symm
          subst this; decide +kernel
      refine ⟨rfl, _, rfl, _, _, rfl, rfl, ?_⟩
      rw [hcc]
      exact hP.yes hD (Same.refl _) rfl (by decide)
    · have e := hP.2.1
      have hsz : z.cps.size = 1 := hl
      rw [hsz] at e
      exact ⟨D, [true], rfl, .inl (.inl e), q _ hP.1⟩
def spReq (K : PySem.W.Frag) : Sp := fun vs H Q E => ∃ b, vs = [.bl b] ∧ (b = true → Q .non H) ∧ (b = false → ∀ H', Same H H' → E (.ref (He.ga K "NotTaken")) none H')
theorem ok_require : FnOk P w K mg base (L2.CX P w) 1 (He.ga K "require") T.d_require ["condition"] (spReq K) := by
  refine T.F_require.ok sc_require (fun vs H Q E h => ?_) (fun cdv A outer s H vs Q E hr h => ?_)
  · obtain ⟨b, rfl, _⟩ := h; rfl
  · obtain ⟨b, rfl, q1, q2⟩ := h
    refine ⟨_, (pss_one (ps_if (pt_not (pt_val (pv 0)))
    (pss_one (ps_raise rfl (takes_of rfl rfl rfl rfl) (SkE.pmk_own1 PySem.F.excBase_ValueError T.e_NotTaken.1 T.g_NotTaken T.e_NotTaken.2.1 (raises_own T.e_NotTaken.2.2.1 T.e_NotTaken.2.2.2) (by exact rfl) pe_str)))
    pss_nil)), ?_⟩
    refine ⟨_, rfl, _, rfl, ?_⟩
    cases b with
    | true => exact iteF (q1 rfl)
    | false => exact iteT (q2 rfl _ (Same.refl H))
end
end K71

set_option Elab.async false
set_option linter.all false
set_option maxRecDepth 100000
set_option maxHeartbeats 4000000
namespace K71
open PySem PySem.Spec PyProof.Rows L2
theorem dtup {K : PySem.W.Frag} {H : Hp} {v : V} {ds : List PyData} (h : Dp K H v (.tuple ds)) : ∃ p xs, v = .ref p ∧ SqT K H p xs ∧ DpAll K H xs ds := by
  cases h with
  | tup hs ha => exact ⟨_, _, rfl, hs, ha⟩
abbrev dTick : PyData := .tuple [.str "tick"]
abbrev dLet : PyData := .tuple [.int 0, .int 0, dTick]
abbrev dBlk : PyData := .tuple [.int (-1), .tuple [], .tuple [dLet], .tuple [.str "give", .int 0]]
abbrev dFn : PyData := .tuple [.str "f", .int 0, .int 0, .tuple [dBlk]]
abbrev dUnit : PyData := .tuple [.str "a", .tuple [], .tuple [dFn]]
abbrev dProg : PyData := .tuple [.tuple [dUnit], .tuple [.str "a", .str "f"]]
abbrev dChg (n : Nat) : PyData := .tuple [.str "fold", .str "a", .str "f", .int 0, .int n, .int 0]
abbrev NT (K : PySem.W.Frag) : Value := .ref (He.ga K "NotTaken")
theorem sc_table_of2 : FnScope ["units", "unit", "function"] ["units"] (defScope s_table_of) := ⟨rfl, rfl, rfl, by decide +kernel, rfl, by decide +kernel, by decide +kernel⟩
def spNames (K : PySem.W.Frag) : Sp := fun vs H Q _ => ∃ (p : Addr) (x : V), vs = [.str "", .ref p] ∧ SqT K H p [x] ∧ ∀ H' l, Same H H' → H' l = some (.lst []) → Q (.ref l) H'
def spNop (K : PySem.W.Frag) : Sp := fun vs H Q _ => ∃ v, vs = [v] ∧ Dp K H v dTick ∧ ∀ H' l, Same H H' → H' l = some (.lst []) → Q (.ref l) H'
def spTab (K : PySem.W.Frag) : Sp := fun vs H Q _ => ∃ v, vs = [v] ∧ Dp K H v (.tuple [dUnit]) ∧ ∀ H' d f, Same H H' → H' d = some (.dT [([.inr "a", .inr "f"], f)]) → Dp K H' f dFn → Q (.ref d) H'
def spFold (K : PySem.W.Frag) : Sp := fun vs H Q E => ∃ f, vs = [f, .int 0, .int 0] ∧ Dp K H f dFn ∧ ∀ H', Same H H' → E (NT K) none H'
def spIsC (K : PySem.W.Frag) : Sp := fun vs H Q E => ∃ (v : V) (n : Nat), vs = [v] ∧ n ≤ 8 ∧ Dp K H v (dChg n) ∧ ∀ H', Same H H' → Q (.bl true) H'
def spCF (K : PySem.W.Frag) : Sp := fun vs H Q E => ∃ (u v f : V) (n : Nat), vs = [u, v, f] ∧ n ≤ 8 ∧ Dp K H v (dChg n) ∧ Dp K H f dFn ∧ ∀ H', Same H H' → E (NT K) none H'
def spChd (K : PySem.W.Frag) : Sp := fun vs H Q E => ∃ (u v : V) (n : Nat), vs = [u, v] ∧ n ≤ 8 ∧ Dp K H v (dChg n) ∧ Dp K H u dProg ∧ ∀ H', Same H H' → E (NT K) none H'
section
variable {P : Program} {w : World} {K : PySem.W.Frag} {mg : Str → Option Value} {base : Heap} (T : Txt K mg) (S : Ext P w K mg)
include T
theorem ok_names_in : FnOk P w K mg base CX0 1 (He.ga K "names_in") T.d_names_in ["marks", "item"] (spNames K) := by
  refine T.F_names_in.ok sc_names_in (fun vs H Q E h => ?_) (fun cdv A outer s H vs Q E hr h => ?_)
  · obtain ⟨p, x, rfl, _⟩ := h; rfl
  · obtain ⟨p, x, rfl, hp, q⟩ := h
    refine ⟨_, PSs.nox (pss_cons (ps_set (i := 2) sc_names_in.nd rfl (.inl rfl) (pe_lst pa_nil))
    (pss_cons (ps_for PassesOwn.never rfl (R71.pi_zipST (by rfl) T.zip (pa_cons (pv 0) (pa_cons (pe_slice sl_tupA (pv 1) (po_some pe_int) po_none) pa_nil))) (pg_tup rfl (pgs_cons (pg_name (i := 3) sc_names_in.nd rfl (.inl rfl)) (pgs_cons (pg_name (i := 4) sc_names_in.nd rfl (.inl rfl)) pgs_nil)))
    (pss_cons (ps_if (pt_cmpR op_eq (pv 3) pe_str (nomark _))
    (pss_one (ps_expr (pe_bm PySem.F.plainAttrs_list PySem.F.slot_list_append PySem.F.type_list_append mt_append (pv 2) (pa_cons (pv 4) pa_nil))))
    pss_nil)
    (pss_one (ps_if (pt_cmpR op_eq (pv 3) pe_str (nomark _))
    (pss_one (ps_expr (pe_bm PySem.F.plainAttrs_list PySem.F.slot_list_extend PySem.F.type_list_extend mt_extend (pv 2) (pa_cons (pv 4) pa_nil))))
    pss_nil))))
    (pss_one (ps_ret (pv 2))))), ?_⟩
    refine ⟨by decide, fun l hl => ?_⟩
    have s1 : Same H (upd H l (.lst [])) := Same.one hl
    refine ⟨_, rfl, _, rfl, _, rfl, p, [x], rfl, s1.sqt hp, fun h => absurd h.1 (show ¬ HT.sIx 1 0 (some 1) = 0 by decide), fun _ p2 hp2 => ?_⟩
    refine ⟨_, p2, [], rfl, sqt_new upd_same, ?_⟩
    refine for_it (R71.walk_zipST (ys := []) rfl) (fun _ σ H' => σ = [some (.str ""), some (.ref p), some (.ref l), none, none] ∧ H' = upd (upd H l (.lst [])) p2 (.tup [])) ⟨rfl, rfl⟩ (fun i σ H' _ hP => by rw [hP.2]; exact sqt_new upd_same) (fun i _ _ _ _ hi => absurd hi (by simp)) (fun σ H' hP => ?_)
    obtain ⟨rfl, rfl⟩ := hP
    exact ⟨_, rfl, q _ l (s1.trans (Same.one hp2)) (by rw [upd_ne (fun z => by rw [← z, upd_same] at hp2; cases hp2)]; exact upd_same)⟩
include S
theorem ok_names_of_op : FnOk P w K mg base CX0 2 (He.ga K "names_of_op") T.d_names_of_op ["op"] (spNop K) := by
  have G_names_in := ok_names_in (P := P) (w := w) (base := base) T
  obtain ⟨es, n, kd_OPS⟩ := S.kO
  refine T.F_names_of_op.ok sc_names_of_op (fun vs H Q E h => ?_) (fun cdv A outer s H vs Q E hr h => ?_)
  · obtain ⟨v, rfl, _⟩ := h; rfl
  · obtain ⟨v, rfl, hv, q⟩ := h
    refine ⟨_, PSs.nox (pss_one (ps_ret (pe_call G_names_in (hr.mono (by omega)) (by rfl) T.g_names_in T.F_names_in.kp T.b_names_in .nil pass0 (pa_cons (pe_ix (ix_kd kd_OPS) (pe_gt rfl T.g_OPS) (pe_ix (r := rIxT K) ix_tup (pv 0) pe_int (fun _ _ => rfl)) (fun _ _ => rfl)) (pa_cons (pv 0) pa_nil))))), ?_⟩
    obtain ⟨p, xs, rfl, hp, ha⟩ := dtup hv
    obtain ⟨u, hu, ru⟩ := S.vO
    cases ha with
    | cons h1 ha =>
    cases ha
    cases h1
    exact ⟨_, rfl, p, _, 0, _, rfl, rfl, hp, rfl, _, u, _, rfl, rfl, hu, ru, _, rfl, p, _, rfl, hp, q⟩
omit S in
theorem ok_table_of : FnOk P w K mg base CX0 1 (He.ga K "table_of") T.d_table_of ["units"] (spTab K) := by
  refine T.F_table_of.ok sc_table_of2 (fun vs H Q E h => ?_) (fun cdv A outer s H vs Q E hr h => ?_)
  · obtain ⟨v, rfl, _⟩ := h; rfl
  · obtain ⟨v, rfl, hv, q⟩ := h
    refine ⟨_, PSs.nox (pss_one (ps_ret (R71.pe_dc2 (wi1 := iTup K (tOp (rIxT K) (tVar 1) (tC (V.int 2)))) (own := [("unit", 1), ("function", 2)]) (vs1 := [2]) (g := gName 1) (g1 := gName 2) (tt := tYes) (tt1 := tYes) (by rfl) sc_table_of2.nd (pi_tup (pv 0)) (blkOk_by (own := [("unit", 1), ("function", 2)]) (N := ["units", "unit", "function"]) (sc := defScope s_table_of) (by decide +kernel)) (by simp) (fun _ _ _ _ _ => (pg_name (i := 1) sc_table_of2.nd rfl (.inl rfl))) (fun _ _ _ _ _ => pts_nil) (fun _ _ _ _ _ => (pi_tup (pe_ix (r := rIxT K) ix_tup (pv 1) pe_int (fun _ _ => rfl)))) (fun _ _ _ _ _ => (pg_name (i := 2) sc_table_of2.nd rfl (.inl rfl))) (fun _ _ _ _ _ => pts_nil) (fun _ _ _ _ _ => (pe_tup (pa_cons (pe_ix (r := rIxT K) ix_tup (pv 1) pe_int (fun _ _ => rfl)) (pa_cons (pe_ix (r := rIxT K) ix_tup (pv 2) pe_int (fun _ _ => rfl)) pa_nil)))) (hu_of hr) (fun _ _ _ _ _ => (pv 2))))), ?_⟩
    obtain ⟨p, xs, rfl, hp, ha⟩ := dtup hv
    cases ha with
    | cons hu ha =>
    cases ha
    obtain ⟨pu, xu, rfl, hpu, hau⟩ := dtup hu
    cases hau with
    | cons ha1 hau =>
    cases hau with
    | cons ha2 hau =>
    cases hau with
    | cons ha3 hau =>
    cases hau
    cases ha1
    obtain ⟨pf, xf, rfl, hpf, haf⟩ := dtup ha3
    cases haf with
    | @cons f _ _ _ hf haf =>
    cases haf
    obtain ⟨pg, xg, rfl, hpg, hag⟩ := dtup hf
    have ha3' : ∀ H', Same H H' → Dp K H' (.ref pg) dFn := fun H' s => (Dp.tup hpg hag).same s
    cases hag with
    | cons hg1 hag =>
    cases hg1
    refine ⟨_, rfl, p, rfl, ⟨_, hp⟩, fun D hD => ?_⟩
    refine R71.dc2_it walk_tup (fun i H' => Same H H' ∧ H' D = some (.dT (if i = 0 then [] else [([.inr "a", .inr "f"], .ref pg)]))) ⟨Same.one hD, upd_same⟩ (fun i H' _ hP => hP.1.sqt hp) (fun i x H1 H' hi hP hy => ?_) (fun H' hP => ?_)
    · obtain ⟨rfl, hx⟩ := hy
      have hi0 : i = 0 := by simp at hi; exact hi
      subst hi0
      cases hx
      refine ⟨rfl, _, rfl, pu, _, 2, _, rfl, rfl, hP.1.sqt hpu, rfl, pf, rfl, ⟨_, hP.1.sqt hpf⟩, ?_⟩
      refine R71.dc2_in walk_tup (fun i H' => Same H H' ∧ H' D = some (.dT (if i = 0 then [] else [([.inr "a", .inr "f"], .ref pg)]))) ⟨hP.1, hP.2⟩ (fun i H' _ hP => hP.1.sqt hpf) (fun i x H1 H' hi hP hy => ?_) (fun H' hP => hP)
      obtain ⟨rfl, hx⟩ := hy
      have hi0 : i = 0 := by simp at hi; exact hi
      subst hi0
      cases hx
      refine ⟨rfl, _, rfl, pu, _, 0, _, rfl, rfl, hP.1.sqt hpu, rfl, _, rfl, pg, _, 0, .str "f", rfl, rfl, hP.1.sqt hpg, atI_nat (j := 0) rfl, by show 2 ≤ sizeLine; decide, fun k hk => ?_⟩
      have e : H' D = some (.dT []) := hP.2
      have kD : D ≠ k := fun z => by rw [← z, e] at hk; cases hk
      refine ⟨_, rfl, _, DPut.t (kvs := []) (k := [.inr "a", .inr "f"]) (by rw [upd_ne kD]; exact e) upd_same (by decide), (hP.1.upd_new ?_).upd_new hD, upd_same⟩
      cases q : H k with
      | none => rfl
      | some o => rw [hP.1 _ _ q] at hk; cases hk
    · exact q _ D _ hP.1 hP.2 (ha3' _ hP.1)
end
end K71

set_option Elab.async false
set_option linter.all false
set_option maxRecDepth 100000
set_option maxHeartbeats 4000000
namespace K71
open PySem PySem.Spec PyProof.Rows L2
section
variable {K : PySem.W.Frag} {H : Hp}
theorem dpa_cons {xs : List V} {d : PyData} {ds : List PyData} (h : DpAll K H xs (d :: ds)) : ∃ x ys, xs = x :: ys ∧ Dp K H x d ∧ DpAll K H ys ds := by
  cases h with | cons a b => exact ⟨_, _, rfl, a, b⟩
theorem dpa_nil {xs : List V} (h : DpAll K H xs []) : xs = [] := by cases h; rfl
theorem dp_int {v : V} {i : Int} (h : Dp K H v (.int i)) : v = .int i := by cases h; rfl
theorem dp_str {v : V} {i : Str} (h : Dp K H v (.str i)) : v = .str i := by cases h; rfl
theorem dchg {v : V} {n : Nat} (h : Dp K H v (dChg n)) : ∃ p, v = .ref p ∧ SqT K H p [.str "fold", .str "a", .str "f", .int 0, .int n, .int 0] := by
  obtain ⟨p, xs, rfl, hp, ha⟩ := dtup h
  obtain ⟨_, _, rfl, h1, ha⟩ := dpa_cons ha
  obtain ⟨_, _, rfl, h2, ha⟩ := dpa_cons ha
  obtain ⟨_, _, rfl, h3, ha⟩ := dpa_cons ha
  obtain ⟨_, _, rfl, h4, ha⟩ := dpa_cons ha
  obtain ⟨_, _, rfl, h5, ha⟩ := dpa_cons ha
  obtain ⟨_, _, rfl, h6, ha⟩ := dpa_cons ha
  obtain rfl := dpa_nil ha
  obtain rfl := dp_str h1
  obtain rfl := dp_str h2
  obtain rfl := dp_str h3
  obtain rfl := dp_int h4
  obtain rfl := dp_int h5
  obtain rfl := dp_int h6
  exact ⟨p, rfl, hp⟩
theorem dfn {v : V} (h : Dp K H v dFn) : ∃ p a b e c d o q, v = .ref p ∧ SqT K H p [.str "f", .int 0, .int 0, .ref a] ∧ SqT K H a [.ref b] ∧ SqT K H b [.int (-1), .ref e, .ref c, .ref q] ∧ SqT K H c [.ref d] ∧ SqT K H d [.int 0, .int 0, .ref o] ∧ Dp K H (.ref o) dTick ∧ SqT K H o [.str "tick"] := by
  obtain ⟨p, xs, rfl, hp, ha⟩ := dtup h
  obtain ⟨_, _, rfl, h1, ha⟩ := dpa_cons ha
  obtain ⟨_, _, rfl, h2, ha⟩ := dpa_cons ha
  obtain ⟨_, _, rfl, h3, ha⟩ := dpa_cons ha
  obtain ⟨_, _, rfl, h4, ha⟩ := dpa_cons ha
  obtain rfl := dpa_nil ha
  obtain rfl := dp_str h1
  obtain rfl := dp_int h2
  obtain rfl := dp_int h3
  obtain ⟨a, xs, rfl, h4, ha⟩ := dtup h4
  obtain ⟨_, _, rfl, h5, ha⟩ := dpa_cons ha
  obtain rfl := dpa_nil ha
  obtain ⟨b, xs, rfl, h5, ha⟩ := dtup h5
  obtain ⟨_, _, rfl, b1, ha⟩ := dpa_cons ha
  obtain ⟨_, _, rfl, b2, ha⟩ := dpa_cons ha
  obtain ⟨_, _, rfl, b3, ha⟩ := dpa_cons ha
  obtain ⟨_, _, rfl, b4, ha⟩ := dpa_cons ha
  obtain rfl := dpa_nil ha
  obtain rfl := dp_int b1
  obtain ⟨e, _, rfl, _, _⟩ := dtup b2
  obtain ⟨q, _, rfl, _, _⟩ := dtup b4
  obtain ⟨c, xs, rfl, b3, ha⟩ := dtup b3
  obtain ⟨_, _, rfl, c1, ha⟩ := dpa_cons ha
  obtain rfl := dpa_nil ha
  obtain ⟨d, xs, rfl, c1, ha⟩ := dtup c1
  obtain ⟨_, _, rfl, d1, ha⟩ := dpa_cons ha
  obtain ⟨_, _, rfl, d2, ha⟩ := dpa_cons ha
  obtain ⟨_, _, rfl, d3, ha⟩ := dpa_cons ha
  obtain rfl := dpa_nil ha
  obtain rfl := dp_int d1
  obtain rfl := dp_int d2
  have d3' := d3
  obtain ⟨o, xs, rfl, d3, ha⟩ := dtup d3
  obtain ⟨_, _, rfl, e1, ha⟩ := dpa_cons ha
  obtain rfl := dpa_nil ha
  obtain rfl := dp_str e1
  exact ⟨p, a, b, e, c, d, o, q, rfl, hp, h4, h5, b3, c1, d3', d3⟩
end
section
variable {P : Program} {w : World} {K : PySem.W.Frag} {mg : Str → Option Value} {base : Heap} (T : Txt K mg) (S : Ext P w K mg)
include T S
theorem ok_folded : FnOk P w K mg base (L2.CX P w) 3 (He.ga K "folded") T.d_folded ["function", "block", "at"] (spFold K) := by
  have G_names_of_op := ok_names_of_op (P := P) (w := w) (base := base) T S
  have G_require := ok_require (P := P) (w := w) (base := base) T
  refine T.F_folded.ok sc_folded (fun vs H Q E h => ?_) (fun cdv A outer s H vs Q E hr h => ?_)
  · obtain ⟨f, rfl, _⟩ := h; rfl
  · obtain ⟨f, rfl, hv, q⟩ := h
    refine ⟨_, (pss_cons (ps_asg (pe_ix (r := rIxT K) ix_tup (pe_ix (r := rIxT K) ix_tup (pe_ix (r := rIxT K) ix_tup (pe_ix (r := rIxT K) ix_tup (pv 0) pe_int (fun _ _ => rfl)) (pv 1) (fun _ _ => rfl)) pe_int (fun _ _ => rfl)) (pv 2) (fun _ _ => rfl)) (pg_tup rfl (pgs_cons (pg_name (i := 3) sc_folded.nd rfl (.inl rfl)) (pgs_cons (pg_name (i := 4) sc_folded.nd rfl (.inl rfl)) (pgs_cons (pg_name (i := 5) sc_folded.nd rfl (.inl rfl)) pgs_nil)))))
    (pss_cons (ps_setLc (i := 6) (own := [("one", 8)]) (g := gName 8) (tt := tYes) (by rfl) sc_folded.nd rfl rfl (sw_true rfl rfl rfl (by decide +kernel)) (pi_list (pe_call G_names_of_op (hr.mono (by omega)) (by rfl) T.g_names_of_op T.F_names_of_op.kp T.b_names_of_op .nil pass0 (pa_cons (pv 5) pa_nil))) (blkOk_by (own := [("one", 8)]) (N := ["function", "block", "at", "place", "name", "op", "words", "word", "one"]) (sc := defScope s_folded) (by decide +kernel)) (fun _ _ _ _ _ => (pg_name (i := 8) sc_folded.nd rfl (.inl rfl))) (fun _ _ _ _ _ => pts_nil) (fun _ _ _ _ _ => pe_dead))
    (pss_cons (ps_expr (pe_callS G_require (hr.mono (by omega)) (by rfl) T.g_require T.F_require.kp T.b_require (fun σ => passAt (takes_of rfl rfl rfl rfl) σ) (pa_cons (pe_and (pe_cmpR (r := rIn K false) op_in_seq (pe_ix (r := rIxT K) ix_tup (pv 5) pe_int (fun _ _ => rfl)) (pe_tup (pa_cons pe_str (pa_cons pe_str (pa_cons pe_str pa_nil)))) (by rfl)) (pe_one (pe_cmpR (r := rIn K true) op_notIn_seq pe_non (pv 6) (by rfl)))) pa_nil)))
    pss_dead))), ?_⟩
    obtain ⟨p, a, b, e, c, d, o, qq, rfl, h1, h2, h3, h4, h5, h6, h7⟩ := dfn hv
    refine ⟨_, rfl, p, _, 3, _, rfl, rfl, h1, rfl, _, rfl, a, _, 0, _, rfl, rfl, h2, rfl, b, _, 2, _, rfl, rfl, h3, rfl, _, rfl, c, _, 0, _, rfl, rfl, h4, rfl, ?_⟩
    refine ⟨d, _, rfl, h5, rfl, _, _, rfl, _, _, rfl, _, _, rfl, rfl, ?_⟩
    refine ⟨_, rfl, _, rfl, h6, fun H1 l s1 hl => ⟨l, rfl, ⟨[], .inl (.inl hl)⟩, fun D hD => ?_⟩⟩
    have nD : l ≠ D := fun z => by rw [← z, hl] at hD; cases hD
    refine ⟨fun i _ H' => H' = upd H1 D (.lst []), ⟨0, rfl⟩, fun i m H' hP => .inl ⟨⟨[], ?_, Nat.zero_le _⟩, ?_⟩⟩
    · subst hP; exact .inl (.inl (by rw [upd_ne nD]; exact hl))
    subst hP
    have s2 := s1.trans (Same.one (o := .lst []) hD)
    refine ⟨_, rfl, o, _, 0, _, rfl, rfl, s2.sqt h7, rfl, (by show 3 ≤ sizeLine; decide), fun k hk => ⟨k, _, rfl, .inr (sqt_new upd_same), rfl, rfl, false, rfl, ?_⟩⟩
    exact ⟨false, rfl, (fun z => nomatch z), fun _ H' s3 => q _ ((s2.trans (Same.one hk)).trans s3)⟩
omit S
theorem ok_is_change : FnOk P w K mg base CX0 3 (He.ga K "is_change") T.d_is_change ["value"] (spIsC K) := by
  have G_is_tuple := ok_is_tuple (P := P) (w := w) (base := base) T
  have G_is_number := ok_is_number (P := P) (w := w) (base := base) T
  have G_is_word_name := ok_is_word_name (P := P) (w := w) (base := base) T
  refine T.F_is_change.ok sc_is_change (fun vs H Q E h => ?_) (fun cdv A outer s H vs Q E hr h => ?_)
  · obtain ⟨v, n, rfl, _⟩ := h; rfl
  · obtain ⟨v, n, rfl, hn, hv, q⟩ := h
    refine ⟨_, PSs.nox (pss_cons (ps_if (PW.pt (pw_or (pt_not (pt_val (pe_call G_is_tuple (hr.mono (by omega)) (by rfl) T.g_is_tuple T.F_is_tuple.kp T.b_is_tuple .nil pass0 (pa_cons (pv 0) (pa_cons pe_int pa_nil))))) (pw_or (pt_not (pt_val (pe_callB (r := rIsi K) call_isi (by rfl) T.isinstance (by decide +kernel) (pa_cons (pe_ix (r := rIxT K) ix_tup (pv 0) pe_int (fun _ _ => rfl)) (pa_cons (pe_bltn (v := .ty "str") rfl T.str (by decide +kernel) rfl) pa_nil))))) (pw_or1 (pt_not (pt_val (pe_callB (r := rAll K) (cr_all rfl) (by rfl) T.all (by decide +kernel) (pa_cons (pe_lc (own := [("name", 1)]) (g := gName 1) (tt := tYes) (by rfl) sc_is_change.nd (pi_tup (pe_slice sl_tupA (pv 0) (po_some pe_int) (po_some pe_int))) (blkOk_by (own := [("name", 1)]) (N := ["value", "name"]) (sc := defScope s_is_change) (by decide +kernel)) (fun _ _ _ _ _ => (pg_name (i := 1) sc_is_change.nd rfl (.inl rfl))) (fun _ _ _ _ _ => pts_nil) (fun _ _ _ _ _ => (pe_call G_is_word_name (hr.mono (by omega)) (by rfl) T.g_is_word_name T.F_is_word_name.kp T.b_is_word_name .nil pass0 (pa_cons (pv 1) pa_nil)))) pa_nil))))))))
    (pss_one (ps_ret pe_bl))
    pss_nil)
    (pss_cons (ps_if (PW.pt (pw_or (pt_not (pt_val (pe_call G_is_number (hr.mono (by omega)) (by rfl) T.g_is_number T.F_is_number.kp T.b_is_number .nil pass0 (pa_cons (pe_ix (r := rIxT K) ix_tup (pv 0) pe_int (fun _ _ => rfl)) (pa_cons pe_int (pa_cons (pe_gi (i := 999) rfl T.MOST_NAME) pa_nil)))))) (pw_or1 (pt_not (pt_val (pe_call G_is_number (hr.mono (by omega)) (by rfl) T.g_is_number T.F_is_number.kp T.b_is_number .nil pass0 (pa_cons (pe_ix (r := rIxT K) ix_tup (pv 0) pe_int (fun _ _ => rfl)) (pa_cons pe_int (pa_cons (pe_gi (i := 999) rfl T.MOST_NAME) pa_nil)))))))))
    (pss_one (ps_ret pe_bl))
    pss_nil)
    (pss_cons (ps_if (pt_cmpR op_eq (pe_ix (r := rIxT K) ix_tup (pv 0) pe_int (fun _ _ => rfl)) pe_str (nomark _))
    (pss_one (ps_ret (pe_call G_is_number (hr.mono (by omega)) (by rfl) T.g_is_number T.F_is_number.kp T.b_is_number .nil pass0 (pa_cons (pe_ix (r := rIxT K) ix_tup (pv 0) pe_int (fun _ _ => rfl)) (pa_cons pe_int (pa_cons (pe_gi (i := 999) rfl T.MOST_NAME) pa_nil))))))
    pss_nil)
    (pss_cons (ps_if (pt_cmpR op_eq (pe_ix (r := rIxT K) ix_tup (pv 0) pe_int (fun _ _ => rfl)) pe_str (nomark _))
    (pss_one (ps_ret (pe_call G_is_word_name (hr.mono (by omega)) (by rfl) T.g_is_word_name T.F_is_word_name.kp T.b_is_word_name .nil pass0 (pa_cons (pe_ix (r := rIxT K) ix_tup (pv 0) pe_int (fun _ _ => rfl)) pa_nil))))
    pss_nil)
    (pss_one (ps_ret (pe_and (pe_cmpR (r := rIn K false) op_in_seq (pe_ix (r := rIxT K) ix_tup (pv 0) pe_int (fun _ _ => rfl)) (pe_op (r := rCatA K) op_catA (pe_gt rfl T.g_BY_LET) (pe_gt rfl T.g_BY_BLOCK)) (by rfl)) (pe_one (pe_call G_is_number (hr.mono (by omega)) (by rfl) T.g_is_number T.F_is_number.kp T.b_is_number .nil pass0 (pa_cons (pe_ix (r := rIxT K) ix_tup (pv 0) pe_int (fun _ _ => rfl)) (pa_cons pe_int (pa_cons pe_int pa_nil)))))))))))), ?_⟩
    obtain ⟨p, rfl, hp⟩ := dchg hv
    refine ⟨_, rfl, p, _, rfl, hp, true, rfl, ?_⟩
    refine ⟨_, rfl, p, _, 0, _, rfl, rfl, hp, rfl, _, _, _, _, true, rfl, .ty _, .base (.str "fold"), ki_str (.str "fold"), true, rfl, ?_⟩
    refine ⟨_, rfl, 1, rfl, 3, rfl, p, _, rfl, hp, fun h => absurd h.1 (show ¬ HT.sIx 6 0 (some 1) = 0 by decide), fun _ k hk => ⟨k, rfl, ⟨_, sqt_new upd_same⟩, fun D hD => ?_⟩⟩
    have s1 : Same H (upd H k (.tup (cutV [.str "fold", .str "a", .str "f", .int 0, .int n, .int 0] (some 1) (some 3)))) := Same.one hk
    have ecut : cutV [.str "fold", .str "a", .str "f", .int 0, .int n, .int 0] (some 1) (some 3) = [.str "a", .str "f"] := by rfl
    refine lc_it (walk_tup (xs := [.str "a", .str "f"])) (LcS _ D fun _ => [.bl true]) (LcS.zero hD fun _ => by simp) (fun i H' _ hP => hP.1.sqt (by rw [← ecut]; exact sqt_new upd_same)) (fun i x H3 H4 hi hP hy => ?_) (fun H3 hP => ?_)
    · obtain ⟨rfl, hx⟩ := hy
      have hxx : ∃ z : Str, x = .str z ∧ (z = "a" ∨ z = "f") := by
        have hi2 : i < 2 := hi
        have : i = 0 ∨ i = 1 := by omega
        rcases this with rfl | rfl
        · cases hx; exact ⟨_, rfl, .inl rfl⟩
        · cases hx; exact ⟨_, rfl, .inr rfl⟩
      obtain ⟨z, rfl, hz⟩ := hxx
      exact ⟨rfl, _, rfl, z, rfl, hz, fun H5 s5 => hP.yes hD s5 rfl (Nat.lt_of_lt_of_le hi (by decide))⟩
    · have e := hP.2.1
      have s2 := s1.trans hP.1
      refine ⟨D, [true, true], rfl, .inl (.inl e), true, rfl, ?_⟩
      refine iteF ?_
      have h2 := s2.sqt hp
      refine ⟨_, rfl, p, _, 3, _, rfl, rfl, h2, rfl, 0, 0, 999, rfl, by decide, by decide, true, rfl, ?_⟩
      refine ⟨_, rfl, p, _, 4, _, rfl, rfl, h2, rfl, (n : Int), 0, 999, rfl, by omega, by omega, true, rfl, iteF ?_⟩
      refine ⟨_, rfl, p, _, 0, _, rfl, rfl, h2, rfl, rfl, false, rfl, iteF ?_⟩
      refine ⟨_, rfl, p, _, 0, _, rfl, rfl, h2, rfl, rfl, false, rfl, iteF ?_⟩
      refine ⟨_, rfl, p, _, 0, _, rfl, rfl, h2, rfl, _, _, _, _, rfl, rfl, He.tupB_ok T.tup_BY_LET _, He.tupB_ok T.tup_BY_BLOCK _, (by show 10 ≤ sizeLine; decide), (fun h => nomatch h), (fun _ h => nomatch h), fun _ _ k hk => ?_⟩
      refine ⟨k, _, rfl, .inr (sqt_new upd_same), rfl, rfl, true, rfl, iteT ?_⟩
      have s3 := s2.trans (Same.one (o := .tup (List.map (He.Dv.v K) [.str "fold", .str "copy", .str "drop", .str "part", .str "direct", .str "inline"] ++ List.map (He.Dv.v K) [.str "known", .str "thread", .str "join", .str "lost"])) hk)
      exact ⟨_, rfl, p, _, 5, _, rfl, rfl, s3.sqt hp, rfl, 0, 0, 0, rfl, by decide, by decide, q _ s3⟩
include S
theorem ok_changed_function : FnOk P w K mg base (L2.CX P w) 4 (He.ga K "changed_function") T.d_changed_function ["program", "change", "function"] (spCF K) := by
  have G_folded := ok_folded (P := P) (w := w) (base := base) T S
  have G_require := ok_require (P := P) (w := w) (base := base) T
  refine T.F_changed_function.ok sc_changed_function (fun vs H Q E h => ?_) (fun cdv A outer s H vs Q E hr h => ?_)
  · obtain ⟨u, v, f, n, rfl, _⟩ := h; rfl
  · obtain ⟨u, v, f, n, rfl, hn, hv, hf, q⟩ := h
    refine ⟨_, (pss_cons (ps_asg (pv 1) (pg_tup rfl (pgs_cons (pg_name (i := 3) sc_changed_function.nd rfl (.inl rfl)) (pgs_cons (pg_name (i := 4) sc_changed_function.nd rfl (.inl rfl)) (pgs_cons (pg_name (i := 4) sc_changed_function.nd rfl (.inl rfl)) (pgs_cons (pg_name (i := 5) sc_changed_function.nd rfl (.inl rfl)) (pgs_cons (pg_name (i := 6) sc_changed_function.nd rfl (.inl rfl)) (pgs_cons (pg_name (i := 7) sc_changed_function.nd rfl (.inl rfl)) pgs_nil))))))))
    (pss_cons (ps_expr (pe_callS G_require (hr.mono (by omega)) (by rfl) T.g_require T.F_require.kp T.b_require (fun σ => passAt (takes_of rfl rfl rfl rfl) σ) (pa_cons (pe_cmpR op_lt (pv 5) (pe_callB (r := rLenS K) call_len_seq (by rfl) T.len (by decide +kernel) (pa_cons (pe_ix (r := rIxT K) ix_tup (pv 2) pe_int (fun _ _ => rfl)) pa_nil)) (nomark _)) pa_nil)))
    (pss_cons (ps_if (pt_cmpR (r := rIn K false) op_in_seq (pv 3) (pe_gt rfl T.g_BY_BLOCK) (by rfl))
    (pss_one ps_dead)
    pss_nil)
    (pss_cons (ps_expr (pe_callS G_require (hr.mono (by omega)) (by rfl) T.g_require T.F_require.kp T.b_require (fun σ => passAt (takes_of rfl rfl rfl rfl) σ) (pa_cons (pe_cmpR op_lt (pv 6) (pe_callB (r := rLenS K) call_len_seq (by rfl) T.len (by decide +kernel) (pa_cons (pe_ix (r := rIxT K) ix_tup (pe_ix (r := rIxT K) ix_tup (pe_ix (r := rIxT K) ix_tup (pv 2) pe_int (fun _ _ => rfl)) (pv 5) (fun _ _ => rfl)) pe_int (fun _ _ => rfl)) pa_nil)) (nomark _)) pa_nil)))
    (pss_cons (ps_if (pt_cmpR op_eq (pv 3) pe_str (nomark _))
    (pss_one ps_dead)
    pss_nil)
    (pss_cons (ps_if (pt_cmpR op_eq (pv 3) pe_str (nomark _))
    (pss_one ps_dead)
    pss_nil)
    (pss_cons (ps_if (pt_cmpR op_eq (pv 3) pe_str (nomark _))
    (pss_one ps_dead)
    pss_nil)
    (pss_cons (ps_if (pt_cmpR op_eq (pv 3) pe_str (nomark _))
    (pss_one (ps_ret (pe_callS G_folded (hr.mono (by omega)) (by rfl) T.g_folded T.F_folded.kp T.b_folded (fun σ => passAt (takes_of rfl rfl rfl rfl) σ) (pa_cons (pv 2) (pa_cons (pv 5) (pa_cons (pv 6) pa_nil))))))
    pss_nil)
    pss_dead)))))))), ?_⟩
    obtain ⟨p, rfl, hp⟩ := dchg hv
    refine ⟨_, rfl, ?_⟩
    refine ⟨p, _, rfl, hp, rfl, _, _, rfl, _, _, rfl, _, _, rfl, _, _, rfl, _, _, rfl, _, _, rfl, rfl, ?_⟩
    obtain ⟨pf, a, b, e, c, d, o, qq, rfl, h1, h2, h3, h4, h5, h6, h7⟩ := dfn hf
    refine ⟨_, rfl, _, rfl, pf, _, 3, _, rfl, rfl, h1, rfl, a, _, rfl, .inr h2, _, _, rfl, rfl, ?_⟩
    refine ⟨true, rfl, fun _ => ?_, (fun z => nomatch z)⟩
    refine ⟨_, rfl, _, _, rfl, .inr (He.tupB_ok T.tup_BY_BLOCK H), rfl, rfl, false, rfl, ?_⟩
    refine ⟨_, rfl, _, rfl, pf, _, 3, _, rfl, rfl, h1, rfl, _, rfl, a, _, 0, _, rfl, rfl, h2, rfl, b, _, 2, _, rfl, rfl, h3, rfl, c, _, rfl, .inr h4, _, _, rfl, rfl, ?_⟩
    refine ⟨decide ((n : Int) < 1), rfl, fun hb => ?_, fun _ H' s => q H' s⟩
    have hn0 : n = 0 := by have := of_decide_eq_true hb; omega
    subst hn0
    refine ⟨_, rfl, rfl, false, rfl, iteF ?_⟩
    refine ⟨_, rfl, rfl, false, rfl, iteF ?_⟩
    refine ⟨_, rfl, rfl, false, rfl, iteF ?_⟩
    refine ⟨_, rfl, rfl, true, rfl, iteT ?_⟩
    exact ⟨_, rfl, _, rfl, _, rfl, .ref pf, rfl, hf, q⟩
theorem ok_changed : FnOk P w K mg base (L2.CX P w) 5 (He.ga K "changed") T.d_changed ["program", "change"] (spChd K) := by
  have G_changed_function := ok_changed_function (P := P) (w := w) (base := base) T S
  have G_require := ok_require (P := P) (w := w) (base := base) T
  have G_is_change := ok_is_change (P := P) (w := w) (base := base) T
  have G_table_of := ok_table_of (P := P) (w := w) (base := base) T
  refine T.F_changed.ok sc_changed (fun vs H Q E h => ?_) (fun cdv A outer s H vs Q E hr h => ?_)
  · obtain ⟨u, v, n, rfl, _⟩ := h; rfl
  · obtain ⟨u, v, n, rfl, hn, hv, hu, q⟩ := h
    refine ⟨_, (pss_cons (ps_expr (pe_callS G_require (hr.mono (by omega)) (by rfl) T.g_require T.F_require.kp T.b_require (fun σ => passAt (takes_of rfl rfl rfl rfl) σ) (pa_cons (pe_call G_is_change (hr.mono (by omega)) (by rfl) T.g_is_change T.F_is_change.kp T.b_is_change .nil pass0 (pa_cons (pv 1) pa_nil)) pa_nil)))
    (pss_cons (ps_set (i := 2) sc_changed.nd rfl (.inl rfl) (pe_dget1 (hu_of hr) (pe_call G_table_of (hr.mono (by omega)) (by rfl) T.g_table_of T.F_table_of.kp T.b_table_of .nil pass0 (pa_cons (pe_ix (r := rIxT K) ix_tup (pv 0) pe_int (fun _ _ => rfl)) pa_nil)) (pe_slice sl_tupA (pv 1) (po_some pe_int) (po_some pe_int)) ⟨rfl, rfl, rfl, rfl⟩))
    (pss_cons (ps_expr (pe_callS G_require (hr.mono (by omega)) (by rfl) T.g_require T.F_require.kp T.b_require (fun σ => passAt (takes_of rfl rfl rfl rfl) σ) (pa_cons (pe_cmpR op_notN (pv 2) pe_non (nomark _)) pa_nil)))
    (pss_cons (ps_if (pt_cmpR op_eq (pe_ix (r := rIxT K) ix_tup (pv 1) pe_int (fun _ _ => rfl)) pe_str (nomark _))
    (pss_one ps_dead)
    (pss_one (ps_set (i := 3) sc_changed.nd rfl (.inl rfl) (R71.pe_callN (by rfl) T.g_with_function T.F_with_function.kp (pa_cons (pv 0) (pa_cons (pe_ix (r := rIxT K) ix_tup (pv 1) pe_int (fun _ _ => rfl)) (pa_cons (pe_callS G_changed_function (hr.mono (by omega)) (by rfl) T.g_changed_function T.F_changed_function.kp T.b_changed_function (fun σ => passAt (takes_of rfl rfl rfl rfl) σ) (pa_cons (pv 0) (pa_cons (pv 1) (pa_cons (pv 2) pa_nil)))) pa_nil)))))))
    pss_dead)))), ?_⟩
    obtain ⟨pu, xu, rfl, h1, ha⟩ := dtup hu
    obtain ⟨x1, _, rfl, hx1, ha⟩ := dpa_cons ha
    have hv' := hv
    obtain ⟨p, rfl, hp⟩ := dchg hv'
    refine ⟨_, rfl, _, n, rfl, hn, hv, fun H1 s1 => ⟨true, rfl, fun _ => ?_, fun z => nomatch z⟩⟩
    refine ⟨_, rfl, pu, _, 0, _, rfl, rfl, s1.sqt h1, atI_nat (j := 0) rfl, x1, rfl, hx1.same s1, fun H2 d f s2 hd hf => ?_⟩
    have hd2 := hd
    have hf2 := hf
    obtain ⟨pf, _, rfl, _, _⟩ := dtup hf2
    refine ⟨d, rfl, .inr ⟨_, .inl hd⟩, _, rfl, 1, rfl, 3, rfl, p, _, rfl, (s1.trans s2).sqt hp, fun h => absurd h.1 (show ¬ HT.sIx 6 0 (some 1) = 0 by decide), fun _ k hk => ?_⟩
    have kd : d ≠ k := fun z => by rw [← z, hd] at hk; cases hk
    refine ⟨_, DGet.t (k := [.inr "a", .inr "f"]) (by rw [upd_ne kd]; exact hd) upd_same, ?_⟩
    have e : valV [(([.inr "a", .inr "f"] : List Key), V.ref pf)] [.inr "a", .inr "f"] = some (V.ref pf) := by rfl
    rw [e]
    have s3 := (s1.trans s2).trans (Same.one (o := .tup (cutV [.str "fold", .str "a", .str "f", .int 0, .int n, .int 0] (some 1) (some 3))) hk)
    refine ⟨_, rfl, rfl, true, rfl, fun _ => ?_, fun z => nomatch z⟩
    refine ⟨_, rfl, p, _, 0, _, rfl, rfl, s3.sqt hp, rfl, rfl, false, rfl, iteF ?_⟩
    refine ⟨_, rfl, _, rfl, p, _, 1, _, rfl, rfl, s3.sqt hp, rfl, _, rfl, _, rfl, _, rfl, _, _, _, n, rfl, hn, hv.same s3, hf.same (Same.one hk), fun H' s4 => q H' (s3.trans s4)⟩
end
end K71

set_option Elab.async false
set_option linter.all false
set_option maxRecDepth 100000
set_option maxHeartbeats 4000000
namespace K71
open PySem PySem.Spec PyProof.Rows L2
theorem But.updn {a d : Addr} {H H' : Hp} {o : HO} (b : But a H H') (h : H d = none) : But a H (upd H' d o) := fun c u e => by
  have ec := hid_some e
  rw [hid_at ec] at e ⊢
  have := b c u (by rw [hid_at ec]; exact e)
  rw [hid_at ec] at this
  rw [upd_ne (fun z => by rw [z, h] at e; cases e)]
  exact this
theorem But.le {a : Addr} {H H' : Hp} (b : But a H H') : Same (hid a H) H' := Same.trans b (hid_le a H')
theorem vS (a b : Str) : decide (V.str a = V.str b) = decide (a = b) := by
  by_cases h : a = b
  · subst h; simp
  · have : V.str a ≠ V.str b := fun z => h (V.str.inj z)
    simp [h]
abbrev dPl (c : Nat) : PyData := .tuple [.str "f", .int 0, .int c, .int 0, .tuple [.tuple [.str "give", .int 0]], .tuple [.int 0]]
abbrev dObj (c : Nat) : PyData := .tuple [.str "a", .int 4, .tuple [], .tuple [dPl c]]
theorem dobj {K : PySem.W.Frag} {H : Hp} {v : V} {c : Nat} (h : Dp K H v (dObj c)) : ∃ p e fs f, v = .ref p ∧ SqT K H p [.str "a", .int 4, e, .ref fs] ∧ SqT K H fs [f] ∧ Dp K H f (dPl c) := by
  obtain ⟨p, xs, rfl, hp, ha⟩ := dtup h
  obtain ⟨_, _, rfl, h1, ha⟩ := dpa_cons ha
  obtain ⟨_, _, rfl, h2, ha⟩ := dpa_cons ha
  obtain ⟨e, _, rfl, h3, ha⟩ := dpa_cons ha
  obtain ⟨_, _, rfl, h4, ha⟩ := dpa_cons ha
  obtain rfl := dpa_nil ha
  obtain rfl := dp_str h1
  obtain rfl := dp_int h2
  obtain ⟨fs, xs, rfl, h4, ha⟩ := dtup h4
  obtain ⟨f, _, rfl, h5, ha⟩ := dpa_cons ha
  obtain rfl := dpa_nil ha
  exact ⟨p, e, fs, f, rfl, hp, h4, h5⟩
theorem dpl {K : PySem.W.Frag} {H : Hp} {v : V} {c : Nat} (h : Dp K H v (dPl c)) : ∃ p cd i sh, v = .ref p ∧ SqT K H p [.str "f", .int 0, .int c, .int 0, .ref cd, sh] ∧ SqT K H cd [.ref i] ∧ SqT K H i [.str "give", .int 0] := by
  obtain ⟨p, xs, rfl, hp, ha⟩ := dtup h
  obtain ⟨_, _, rfl, h1, ha⟩ := dpa_cons ha
  obtain ⟨_, _, rfl, h2, ha⟩ := dpa_cons ha
  obtain ⟨_, _, rfl, h3, ha⟩ := dpa_cons ha
  obtain ⟨_, _, rfl, h4, ha⟩ := dpa_cons ha
  obtain ⟨_, _, rfl, h5, ha⟩ := dpa_cons ha
  obtain ⟨sh, _, rfl, h6, ha⟩ := dpa_cons ha
  obtain rfl := dpa_nil ha
  obtain rfl := dp_str h1
  obtain rfl := dp_int h2
  obtain rfl := dp_int h3
  obtain rfl := dp_int h4
  obtain ⟨cd, xs, rfl, h5, ha⟩ := dtup h5
  obtain ⟨_, _, rfl, h7, ha⟩ := dpa_cons ha
  obtain rfl := dpa_nil ha
  obtain ⟨i, xs, rfl, h7, ha⟩ := dtup h7
  obtain ⟨_, _, rfl, h8, ha⟩ := dpa_cons ha
  obtain ⟨_, _, rfl, h9, ha⟩ := dpa_cons ha
  obtain rfl := dpa_nil ha
  obtain rfl := dp_str h8
  obtain rfl := dp_int h9
  exact ⟨p, cd, i, sh, rfl, hp, h5, h7⟩
/-- a linker at a, over the heap H0; k: functions numbered so far -/
structure Lk (K : PySem.W.Frag) (H0 : Hp) (a dx d1 l1 d2 : Addr) (o : V) (c k : Nat) (H : Hp) : Prop where
  s : Same H0 H
  na : H0 a = none
  nl : H0 l1 = none
  nd : H0 d2 = none
  at_ : H a = some (.ins (He.ga K "Linker") dx [("objects", .ref d1), ("order", .ref l1), ("numbers", .ref d2)])
  ob : H d1 = some (.dK [(.inr "a", o)])
  or0 : k = 0 → H l1 = some (.lst []) ∧ H d2 = some (.dT [])
  or1 : k = 1 → ∃ t, H l1 = some (.lst [.ref t]) ∧ SqT K H t [.str "a", .str "f"] ∧ H d2 = some (.dT [([.inr "a", .inr "f"], .int 0)])
  dat : Dp K H0 o (dObj c)
theorem Lk.same {K : PySem.W.Frag} {H0 H H' : Hp} {a dx d1 l1 d2 : Addr} {o : V} {c k : Nat} (h : Lk K H0 a dx d1 l1 d2 o c k H) (s : Same H H') : Lk K H0 a dx d1 l1 d2 o c k H' :=
  ⟨h.s.trans s, h.na, h.nl, h.nd, s _ _ h.at_, s _ _ h.ob, fun e => ⟨s _ _ (h.or0 e).1, s _ _ (h.or0 e).2⟩, fun e => let ⟨t, a, b, c⟩ := h.or1 e; ⟨t, s _ _ a, s.sqt b, s _ _ c⟩, h.dat⟩
def spLi (K : PySem.W.Frag) : Sp := fun vs H Q E => ∃ (a dx l : Addr) (o : V) (c : Nat), vs = [.ref a, .ref l] ∧ H a = some (.ins (He.ga K "Linker") dx []) ∧ Dp K (hid a H) o (dObj c) ∧
  ((SqL K (hid a H) l [o] ∧ ∀ H' d1 l1 d2, Lk K (hid a H) a dx d1 l1 d2 o c 0 H' → Q .non H') ∨ (SqL K (hid a H) l [o, o] ∧ ∀ H', But a H H' → E (.ref (He.ga K "Twice")) none H'))
def spLf (K : PySem.W.Frag) : Sp := fun vs H Q E => ∃ (H0 : Hp) (a dx d1 l1 d2 : Addr) (o : V) (c k : Nat) (u m : Str), vs = [.ref a, .str u, .str m] ∧ Lk K H0 a dx d1 l1 d2 o c k H ∧
  (u ≠ "a" → E (.ref (He.ga K "NoUnit")) none H) ∧ (u = "a" → m ≠ "f" → ∀ H', Same H H' → E (.ref (He.ga K "NoFunction")) none H') ∧ (u = "a" → m = "f" → ∀ H' f, Same H H' → Dp K H0 f (dPl c) → Q f H')
def spLn (K : PySem.W.Frag) : Sp := fun vs H Q E => ∃ (H0 : Hp) (a dx d1 l1 d2 : Addr) (o : V) (c : Nat) (u m : Str), vs = [.ref a, .str u, .str m] ∧ Lk K H0 a dx d1 l1 d2 o c 0 H ∧
  (u ≠ "a" → E (.ref (He.ga K "NoUnit")) none H) ∧ (u = "a" → m ≠ "f" → ∀ H', Same H H' → E (.ref (He.ga K "NoFunction")) none H') ∧ (u = "a" → m = "f" → ∀ H', Lk K H0 a dx d1 l1 d2 o c 1 H' → Q (.int 0) H')
def spAsk (K : PySem.W.Frag) : Sp := fun vs H Q E => ∃ (p : Addr), vs = [.ref p] ∧ SqT K H p [.str "give", .int 0] ∧ Q .non H
def spLk (K : PySem.W.Frag) : Sp := fun vs H Q E => ∃ (H0 : Hp) (a dx d1 l1 d2 : Addr) (o : V) (c k : Nat) (p : Addr), vs = [.ref a, .ref p] ∧ Lk K H0 a dx d1 l1 d2 o c k H ∧ SqT K H p [.str "give", .int 0] ∧ Q (.ref p) H
def spLr (K : PySem.W.Frag) : Sp := fun vs H Q E => ∃ (H0 : Hp) (a dx d1 l1 d2 : Addr) (o : V) (c : Nat) (u m : Str) (p : Addr), vs = [.ref a, .ref p] ∧ SqT K H p [.str u, .str m] ∧ Lk K H0 a dx d1 l1 d2 o c 0 H ∧
  (u ≠ "a" → E (.ref (He.ga K "NoUnit")) none H) ∧ (u = "a" → m ≠ "f" → ∀ H', Same H H' → E (.ref (He.ga K "NoFunction")) none H') ∧ (u = "a" → m = "f" → ∀ H' r, Lk K H0 a dx d1 l1 d2 o c 1 H' → Q r H')
def spLd (K : PySem.W.Frag) : Sp := fun vs H Q E => ∃ (l : Addr) (o : V) (c : Nat) (u m : Str) (p : Addr), vs = [.ref l, .ref p] ∧ SqT K H p [.str u, .str m] ∧ Dp K H o (dObj c) ∧
  ((SqL K H l [o, o] ∧ ∀ H', Same H H' → E (.ref (He.ga K "Twice")) none H') ∨ (SqL K H l [o] ∧
  (u ≠ "a" → ∀ H', Same H H' → E (.ref (He.ga K "NoUnit")) none H') ∧ (u = "a" → m ≠ "f" → ∀ H', Same H H' → E (.ref (He.ga K "NoFunction")) none H') ∧ (u = "a" → m = "f" → c ≠ 0 ∧ ∀ H', Same H H' → E (.ref (He.ga K "OtherShape")) none H')))
section
variable {P : Program} {w : World} {K : PySem.W.Frag} {mg : Str → Option Value} {base : Heap} (T : Txt K mg)
include T
theorem ok_asked_of : FnOk P w K mg base CX0 1 (He.ga K "asked_of") T.d_asked_of ["instruction"] (spAsk K) := by
  refine T.F_asked_of.ok sc_asked_of (fun vs H Q E h => ?_) (fun cdv A outer s H vs Q E hr h => ?_)
  · obtain ⟨p, rfl, _⟩ := h; rfl
  · obtain ⟨p, rfl, hp, q⟩ := h
    refine ⟨_, PSs.nox (pss_cons (ps_if (pt_cmpR op_eq (pe_ix (r := rIxT K) ix_tup (pv 0) pe_int (fun _ _ => rfl)) pe_str (nomark _))
    (pss_one (ps_ret (pe_tup (pa_cons (pe_ix (r := rIxT K) ix_tup (pv 0) pe_int (fun _ _ => rfl)) (pa_cons (pe_ix (r := rIxT K) ix_tup (pv 0) pe_int (fun _ _ => rfl)) (pa_cons (pe_ix (r := rIxT K) ix_tup (pv 0) pe_int (fun _ _ => rfl)) (pa_cons pe_int pa_nil)))))))
    pss_nil)
    (pss_cons (ps_if (pt_cmpR op_eq (pe_ix (r := rIxT K) ix_tup (pv 0) pe_int (fun _ _ => rfl)) pe_str (nomark _))
    (pss_one (ps_ret (pe_tup (pa_cons (pe_ix (r := rIxT K) ix_tup (pv 0) pe_int (fun _ _ => rfl)) (pa_cons (pe_ix (r := rIxT K) ix_tup (pv 0) pe_int (fun _ _ => rfl)) (pa_cons pe_non (pa_cons (pe_ix (r := rIxT K) ix_tup (pv 0) pe_int (fun _ _ => rfl)) pa_nil)))))))
    pss_nil)
    (pss_one (ps_ret pe_non)))), ?_⟩
    exact ⟨_, rfl, p, _, 0, _, rfl, rfl, hp, rfl, rfl, false, rfl, iteF ⟨_, rfl, p, _, 0, _, rfl, rfl, hp, rfl, rfl, false, rfl, iteF q⟩⟩
theorem ok_Li : FnOk P w K mg base (L2.CX P w) 1 (He.ma K (He.ga K "Linker") "__init__") T.d_Linker___init__ ["self", "objects"] (spLi K) := by
  refine T.F_Linker___init__.ok sc_Linker___init__ (fun vs H Q E h => ?_) (fun cdv A outer s H vs Q E hr h => ?_)
  · obtain ⟨a, dx, l, o, c, rfl, _⟩ := h; rfl
  · obtain ⟨a, dx, l, o, c, rfl, ha, hd, q⟩ := h
    refine ⟨_, (pss_cons (ps_fld (pv 0) pe_dnewK rfl)
    (pss_cons (ps_for (passes_of rfl) rfl (pi_list (pv 1)) (pg_name (i := 2) sc_Linker___init__.nd rfl (.inl rfl))
    (pss_cons (ps_if (pt_cmp (pc_din (hu_of hr) (pe_ix (r := rIxT K) ix_tup (pv 2) pe_int (fun _ _ => rfl)) (pe_fld (pv 0) rfl)))
    (pss_one (ps_raise rfl (takes_of rfl rfl rfl rfl) (SkE.pmk_own1 PySem.F.excBase_ValueError T.e_Twice.1 T.g_Twice T.e_Twice.2.1 (raises_own T.e_Twice.2.2.1 T.e_Twice.2.2.2) (by exact rfl) pe_str)))
    pss_nil)
    (pss_one (ps_dput (hu_of hr) (pe_fld (pv 0) rfl) (pe_ix (r := rIxT K) ix_tup (pv 2) pe_int (fun _ _ => rfl)) (pv 2) rfl))))
    (pss_cons (ps_fld (pv 0) (pe_lst pa_nil) rfl)
    (pss_one (ps_fld (pv 0) pe_dnewT rfl))))), ?_⟩
    obtain ⟨xs, hs, hx, hl1, hE, hQ⟩ : ∃ xs : List V, SqL K (hid a H) l xs ∧ (∀ (i : Nat) x, xs[i]? = some x → x = o) ∧ 1 ≤ xs.length ∧ (2 ≤ xs.length → ∀ H', But a H H' → E (.ref (He.ga K "Twice")) none H') ∧ (xs.length < 2 → ∀ H' d1 l1 d2, Lk K (hid a H) a dx d1 l1 d2 o c 0 H' → Q .non H') := by
      rcases q with ⟨h1, h2⟩ | ⟨h1, h2⟩
      · refine ⟨_, h1, fun i x h => ?_, by simp, fun h => absurd h (by simp), fun _ => h2⟩
        have : i < 1 := (List.getElem?_eq_some_iff.mp h).1
        obtain rfl : i = 0 := by omega
        cases h; rfl
      · refine ⟨_, h1, fun i x h => ?_, by simp, fun _ => h2, fun h => absurd h (by simp)⟩
        have : i < 2 := (List.getElem?_eq_some_iff.mp h).1
        have : i = 0 ∨ i = 1 := by omega
        rcases this with rfl | rfl <;> (cases h; rfl)
    have sq : ∀ {H'}, But a H H' → SqL K H' l xs := fun {H'} b => (hid_le a H').seq (L2.Same.seq b hs)
    have dd : ∀ {H'}, But a H H' → Dp K H' o (dObj c) := fun {H'} b => Dp.same (Dp.same hd b) (hid_le a H')
    have hd2 := hd
    obtain ⟨po, e0, fs, f, rfl, _⟩ := dobj hd2
    have one : ∀ {H'}, But a H H' → ∃ e fs, SqT K H' po [.str "a", .int 4, e, .ref fs] := fun {H'} b => by
      obtain ⟨p', e, fs, f, e1, h1, _⟩ := dobj (dd b)
      cases e1
      exact ⟨_, _, h1⟩
    refine fun d1 hd1 => ?_
    have d1a : a ≠ d1 := fun z => by rw [← z, ha] at hd1; cases hd1
    refine ⟨_, rfl, a, _, dx, _, rfl, (by rw [upd_ne d1a]; exact ha), T.c_Linker, T.n_Linker_objects, (by show (0 : Nat) < 1000; decide), ?_⟩
    have hn1 : hid a H d1 = none := by rw [hid_at d1a.symm]; exact hd1
    generalize hH1 : upd (upd H d1 (.dK [])) a (.ins (He.ga K "Linker") dx (putF "objects" (.ref d1) [])) = H1
    have b1 : But a H H1 := by rw [← hH1]; exact ((Same.one hd1).but a).trans But.set
    have e1 : H1 a = some (.ins (He.ga K "Linker") dx [("objects", .ref d1)]) := by rw [← hH1]; exact upd_same
    have e2 : H1 d1 = some (.dK []) := by rw [← hH1, upd_ne d1a.symm]; exact upd_same
    refine ⟨_, rfl, l, rfl, ⟨_, sq b1⟩, ?_⟩
    refine for_it (walk_list (xs := xs)) (fun i σ H' => i ≤ 1 ∧ (∃ v, σ = [some (.ref a), some (.ref l), v]) ∧ But a H H' ∧ H' a = some (.ins (He.ga K "Linker") dx [("objects", .ref d1)]) ∧ H' d1 = some (.dK (if i = 0 then [] else [(.inr "a", .ref po)])))
      ⟨Nat.zero_le _, ⟨none, rfl⟩, b1, e1, e2⟩ (fun i σ H' _ hP => sq hP.2.2.1) (fun i x σ H2 H3 hi hP hy => ?_) (fun σ H' hP => ?_)
    · obtain ⟨rfl, hxi⟩ := hy
      obtain ⟨_, ⟨v, rfl⟩, b2, f1, f2⟩ := hP
      obtain rfl := hx _ _ hxi
      obtain ⟨e, fs', hpo⟩ := one b2
      refine ⟨_, rfl, po, _, 0, _, rfl, rfl, hpo, atI_nat (j := 0) rfl, _, rfl, a, _, dx, _, .ref d1, rfl, f1, T.c_Linker, T.n_Linker_objects, rfl, d1, _, rfl, DGet.k (k := .inr "a") f2, ?_⟩
      cases i with
      | zero =>
        refine ⟨false, rfl, iteF ⟨_, rfl, _, rfl, a, _, dx, _, .ref d1, rfl, f1, T.c_Linker, T.n_Linker_objects, rfl, _, rfl, po, _, 0, _, rfl, rfl, hpo, atI_nat (j := 0) rfl, d1, _, rfl, DPut.k (kvs := []) (k := .inr "a") f2 (by decide), ?_⟩⟩
        exact ⟨Nat.le_refl _, ⟨_, rfl⟩, But.updn b2 hd1, by rw [upd_ne d1a]; exact f1, upd_same⟩
      | succ j =>
        refine ⟨true, rfl, iteT ?_⟩
        have : 2 ≤ xs.length := by omega
        exact hE this _ b2
    · obtain ⟨hl2, ⟨v, rfl⟩, b2, f1, f2⟩ := hP
      have f2' : H' d1 = some (.dK [(.inr "a", .ref po)]) := by
        rw [f2, if_neg]; intro z; rw [z] at hl1; exact absurd hl1 (by decide)
      refine ⟨(by decide), fun lo hlo => ?_⟩
      have la : lo ≠ a := fun z => by rw [z, f1] at hlo; cases hlo
      have ld : lo ≠ d1 := fun z => by rw [z, f2'] at hlo; cases hlo
      refine ⟨_, rfl, a, _, dx, _, rfl, (by rw [upd_ne la.symm]; exact f1), T.c_Linker, T.n_Linker_order, (by show (1 : Nat) < 1000; decide), ?_⟩
      refine fun d2 hd2 => ?_
      have e4 : ∀ b o, H' b = some o → b ≠ a → upd (upd H' lo (.lst [])) a (.ins (He.ga K "Linker") dx (putF "order" (.ref lo) [("objects", .ref d1)])) b = some o := fun b o hb hba => by
        rw [upd_ne hba, upd_ne (fun z => by rw [z, hlo] at hb; cases hb)]; exact hb
      have d2a : d2 ≠ a := fun z => by rw [z, upd_same] at hd2; cases hd2
      have d2l : d2 ≠ lo := fun z => by rw [z, upd_ne la, upd_same] at hd2; cases hd2
      have d2d : d2 ≠ d1 := fun z => by rw [z, e4 _ _ f2' d1a.symm] at hd2; cases hd2
      refine ⟨_, rfl, a, _, dx, _, rfl, (by rw [upd_ne d2a.symm]; exact upd_same), T.c_Linker, T.n_Linker_numbers, (by show (2 : Nat) < 1000; decide), ?_⟩
      have hlo0 : H lo = none := by
        cases q : H lo with
        | none => rfl
        | some u =>
          have := b2.at q la
          rw [hlo] at this; cases this
      have hd20 : H d2 = none := by
        cases q : H d2 with
        | none => rfl
        | some u =>
          have := e4 _ _ (b2.at q d2a) d2a
          rw [hd2] at this; cases this
      have b3 : But a H (upd (upd H' lo (.lst [])) a (.ins (He.ga K "Linker") dx (putF "order" (.ref lo) [("objects", .ref d1)]))) := (But.updn b2 hlo0).trans But.set
      have b4 := (But.updn (o := .dT []) b3 hd20).trans (But.set (o := .ins (He.ga K "Linker") dx (putF "numbers" (.ref d2) (putF "order" (.ref lo) [("objects", .ref d1)]))))
      exact hQ (by omega) _ d1 lo d2 ⟨b4.le, by unfold hid; rw [if_pos rfl], by rw [hid_at la]; exact hlo0, by rw [hid_at d2a]; exact hd20, upd_same, by rw [upd_ne d1a.symm, upd_ne d2d.symm, upd_ne d1a.symm, upd_ne ld.symm]; exact f2',
        fun _ => ⟨by rw [upd_ne la, upd_ne d2l.symm, upd_ne la]; exact upd_same, by rw [upd_ne d2a]; exact upd_same⟩, (fun z => nomatch z), hd⟩
theorem ok_Lf : FnOk P w K mg base (L2.CX P w) 1 (He.ma K (He.ga K "Linker") "function") T.d_Linker_function ["self", "unit", "name"] (spLf K) := by
  refine T.F_Linker_function.ok sc_Linker_function (fun vs H Q E h => ?_) (fun cdv A outer s H vs Q E hr h => ?_)
  · obtain ⟨H0, a, dx, d1, l1, d2, o, c, k, u, m, rfl, _⟩ := h; rfl
  · obtain ⟨H0, a, dx, d1, l1, d2, o, c, k, u, m, rfl, hl, q1, q2, q3⟩ := h
    refine ⟨_, (pss_cons (ps_if (pt_cmp (pc_dnotin (hu_of hr) (pv 1) (pe_fld (pv 0) rfl)))
    (pss_one (ps_raise rfl (takes_of rfl rfl rfl rfl) (SkE.pmk_own1 PySem.F.excBase_ValueError T.e_NoUnit.1 T.g_NoUnit T.e_NoUnit.2.1 (raises_own T.e_NoUnit.2.2.1 T.e_NoUnit.2.2.2) (by exact rfl) pe_str)))
    pss_nil)
    (pss_cons (ps_for (passes_of rfl) rfl (pi_tup (pe_ix (r := rIxT K) ix_tup (pe_dget (hu_of hr) (pe_fld (pv 0) rfl) (pv 1) (fun _ _ => rfl)) pe_int (fun _ _ => rfl))) (pg_name (i := 3) sc_Linker_function.nd rfl (.inl rfl))
    (pss_one (ps_if (pt_cmpR op_eq (pe_ix (r := rIxT K) ix_tup (pv 3) pe_int (fun _ _ => rfl)) (pv 2) (nomark _))
    (pss_one (ps_ret (pv 3)))
    pss_nil)))
    (pss_one (ps_raise rfl (takes_of rfl rfl rfl rfl) (SkE.pmk_own1 PySem.F.excBase_ValueError T.e_NoFunction.1 T.g_NoFunction T.e_NoFunction.2.1 (raises_own T.e_NoFunction.2.2.1 T.e_NoFunction.2.2.2) (by exact rfl) pe_str))))), ?_⟩
    refine ⟨_, rfl, _, rfl, a, _, dx, _, .ref d1, rfl, hl.at_, T.c_Linker, T.n_Linker_objects, rfl, d1, _, rfl, DGet.k (k := .inr u) hl.ob, ?_⟩
    by_cases hu : u = "a"
    case neg =>
      have e : valV [((.inr "a" : Key), o)] (.inr u) = none := by
        have : (Sum.inr "a" : Key) ≠ .inr u := fun z => hu (Sum.inr.inj z).symm
        simp [valV, this]
      rw [e]
      exact ⟨true, rfl, iteT (q1 hu)⟩
    subst hu
    refine ⟨false, rfl, iteF ?_⟩
    obtain ⟨po, e0, fs, f, rfl, h1, h2, h3⟩ := dobj hl.dat
    have h3' := h3
    obtain ⟨p, cd, i, sh, rfl, h4, _⟩ := dpl h3'
    refine ⟨_, rfl, a, _, dx, _, .ref d1, rfl, hl.at_, T.c_Linker, T.n_Linker_objects, rfl, _, rfl, d1, _, rfl, DGet.k (k := .inr "a") hl.ob, po, _, 3, _, rfl, rfl, hl.s.sqt h1, atI_nat (j := 3) rfl, fs, rfl, ⟨_, hl.s.sqt h2⟩, ?_⟩
    refine for_it (walk_tup (xs := [.ref p])) (fun i σ H' => H' = H ∧ (∃ v, σ = [some (.ref a), some (.str "a"), some (.str m), v]) ∧ (1 ≤ i → m ≠ "f")) ⟨rfl, ⟨none, rfl⟩, fun z => absurd z (by decide)⟩ (fun i σ H' _ hP => by rw [hP.1]; exact hl.s.sqt h2) (fun i x σ H2 H3 hi hP hy => ?_) (fun σ H' hP => ?_)
    · obtain ⟨rfl, hxi⟩ := hy
      obtain ⟨rfl, ⟨v, rfl⟩, _⟩ := hP
      have hi0 : i = 0 := by simp at hi; exact hi
      subst hi0
      cases hxi
      refine ⟨_, rfl, p, _, 0, .str "f", rfl, rfl, hl.s.sqt h4, atI_nat (j := 0) rfl, _, rfl, rfl, decide (m = "f"), ?_, ?_⟩
      · rw [vS]; congr 1; simp [eq_comm]
      · by_cases hm : m = "f"
        · rw [decide_eq_true hm]
          exact iteT ⟨_, rfl, q3 rfl hm _ _ (Same.refl _) h3⟩
        · rw [decide_eq_false hm]
          exact iteF ⟨rfl, ⟨_, rfl⟩, fun _ => hm⟩
    · obtain ⟨rfl, _, hm⟩ := hP
      exact q2 rfl (hm (Nat.le_refl _)) _ (Same.refl _)
theorem ok_Lk : FnOk P w K mg base CX0 2 (He.ma K (He.ga K "Linker") "linked") T.d_Linker_linked ["self", "instruction"] (spLk K) := by
  have G_asked_of := ok_asked_of (P := P) (w := w) (base := base) T
  refine T.F_Linker_linked.ok sc_Linker_linked (fun vs H Q E h => ?_) (fun cdv A outer s H vs Q E hr h => ?_)
  · obtain ⟨H0, a, dx, d1, l1, d2, o, c, k, p, rfl, _⟩ := h; rfl
  · obtain ⟨H0, a, dx, d1, l1, d2, o, c, k, p, rfl, hl, hp, q⟩ := h
    refine ⟨_, PSs.nox (pss_cons (ps_set (i := 2) sc_Linker_linked.nd rfl (.inl rfl) (pe_call G_asked_of (hr.mono (by omega)) (by rfl) T.g_asked_of T.F_asked_of.kp T.b_asked_of .nil pass0 (pa_cons (pv 1) pa_nil)))
    (pss_cons (ps_if (pt_cmpR op_isN (pv 2) pe_non (nomark _))
    (pss_one (ps_ret (pv 1)))
    pss_nil)
    pss_dead)), ?_⟩
    exact ⟨_, rfl, p, rfl, hp, _, rfl, rfl, true, rfl, iteT ⟨_, rfl, q⟩⟩
end
end K71

set_option Elab.async false
set_option linter.all false
set_option maxRecDepth 100000
set_option maxHeartbeats 4000000
namespace K71
open PySem PySem.Spec PyProof.Rows L2
theorem sqt_lst {K : PySem.W.Frag} {H : Hp} {t lf : Addr} {xs ys : List V} {o : HO} (h : SqT K H t xs) (hl : H lf = some (.lst ys)) : SqT K (upd H lf o) t xs := by
  rcases h with (h | ⟨u, h⟩) | h
  · exact .inl (.inl (by rw [upd_ne (fun z => by rw [z, hl] at h; cases h)]; exact h))
  · exact .inl (.inr ⟨u, by rw [upd_ne (fun z => by rw [z, hl] at h; cases h)]; exact h⟩)
  · exact .inr h
theorem Lk.put {K : PySem.W.Frag} {H0 H : Hp} {a dx d1 l1 d2 lf : Addr} {o : V} {c : Nat} {xs : List V} {u : HO} (h : Lk K H0 a dx d1 l1 d2 o c 1 H) (n0 : H0 lf = none) (na : lf ≠ a) (nb : lf ≠ d1) (nc : lf ≠ l1) (nd : lf ≠ d2) (hl : H lf = some (.lst xs)) : Lk K H0 a dx d1 l1 d2 o c 1 (upd H lf u) :=
  ⟨h.s.upd_new n0, h.na, h.nl, h.nd, by rw [upd_ne na.symm]; exact h.at_, by rw [upd_ne nb.symm]; exact h.ob, (fun z => nomatch z), fun e => let ⟨t, t1, t2, t3⟩ := h.or1 e; ⟨t, by rw [upd_ne nc.symm]; exact t1, sqt_lst t2 hl, by rw [upd_ne nd.symm]; exact t3⟩, h.dat⟩
section
variable {P : Program} {w : World} {K : PySem.W.Frag} {mg : Str → Option Value} {base : Heap} (T : Txt K mg)
include T
theorem ok_Ln : FnOk P w K mg base (L2.CX P w) 2 (He.ma K (He.ga K "Linker") "number") T.d_Linker_number ["self", "unit", "name"] (spLn K) := by
  have G_Linker_function := ok_Lf (P := P) (w := w) (base := base) T
  refine T.F_Linker_number.ok sc_Linker_number (fun vs H Q E h => ?_) (fun cdv A outer s H vs Q E hr h => ?_)
  · obtain ⟨H0, a, dx, d1, l1, d2, o, c, u, m, rfl, _⟩ := h; rfl
  · obtain ⟨H0, a, dx, d1, l1, d2, o, c, u, m, rfl, hl, q1, q2, q3⟩ := h
    refine ⟨_, (pss_cons (ps_expr (R71.pe_methS (pv 0) T.c_Linker T.mt_Linker_function G_Linker_function (hr.mono (by omega)) T.b_Linker_function (fun σ => passAt (takes_of rfl rfl rfl rfl) σ) (pa_cons (pv 1) (pa_cons (pv 2) pa_nil))))
    (pss_cons (ps_if (pt_cmp (pc_dnotin (hu_of hr) (pe_tup (pa_cons (pv 1) (pa_cons (pv 2) pa_nil))) (pe_fld (pv 0) rfl)))
    (pss_cons (ps_dput (hu_of hr) (pe_fld (pv 0) rfl) (pe_tup (pa_cons (pv 1) (pa_cons (pv 2) pa_nil))) (pe_callB (r := rLenS K) call_len_seq (by rfl) T.len (by decide +kernel) (pa_cons (pe_fld (pv 0) rfl) pa_nil)) rfl)
    (pss_one (ps_expr (pe_bm PySem.F.plainAttrs_list PySem.F.slot_list_append PySem.F.type_list_append mt_append (pe_fld (pv 0) rfl) (pa_cons (pe_tup (pa_cons (pv 1) (pa_cons (pv 2) pa_nil))) pa_nil)))))
    pss_nil)
    (pss_one (ps_ret (pe_dget (hu_of hr) (pe_fld (pv 0) rfl) (pe_tup (pa_cons (pv 1) (pa_cons (pv 2) pa_nil))) (fun _ _ => rfl)))))), ?_⟩
    refine ⟨_, rfl, a, dx, _, rfl, hl.at_, rfl, _, rfl, _, rfl, H0, a, dx, d1, l1, d2, o, c, 0, u, m, rfl, hl, q1, q2, fun hu hm H1 f s1 hf => ?_⟩
    subst hu hm
    have hl1 := hl.same s1
    obtain ⟨g1, g2⟩ := hl1.or0 rfl
    refine ⟨_, rfl, _, rfl, (by show 2 ≤ sizeLine; decide), fun k1 hk1 => ?_⟩
    have hl2 := hl1.same (Same.one (o := .tup [.str "a", .str "f"]) hk1)
    obtain ⟨g1, g2⟩ := hl2.or0 rfl
    refine ⟨_, rfl, a, _, dx, _, .ref d2, rfl, hl2.at_, T.c_Linker, T.n_Linker_numbers, rfl, d2, _, rfl, DGet.t (k := [.inr "a", .inr "f"]) g2 upd_same, true, rfl, iteT ?_⟩
    refine ⟨_, rfl, a, _, dx, _, .ref l1, rfl, hl2.at_, T.c_Linker, T.n_Linker_order, rfl, l1, _, rfl, .inl (sql_new g1), ?_⟩
    refine ⟨_, rfl, a, _, dx, _, .ref d2, rfl, hl2.at_, T.c_Linker, T.n_Linker_numbers, rfl, _, rfl, _, rfl, (by show 2 ≤ sizeLine; decide), fun k2 hk2 => ?_⟩
    have hl3 := hl2.same (Same.one (o := .tup [.str "a", .str "f"]) hk2)
    obtain ⟨g1, g2⟩ := hl3.or0 rfl
    refine ⟨d2, _, rfl, DPut.t (kvs := []) (k := [.inr "a", .inr "f"]) g2 upd_same (by decide), ?_⟩
    have ad : a ≠ d2 := fun z => by have := hl3.at_; rw [z, g2] at this; cases this
    have ld : l1 ≠ d2 := fun z => by rw [z, g2] at g1; cases g1
    have od : d1 ≠ d2 := fun z => by
      have q1 := hl3.ob
      rw [z, g2] at q1; cases q1
    have al : a ≠ l1 := fun z => by have := hl3.at_; rw [z, g1] at this; cases this
    have ol : d1 ≠ l1 := fun z => by
      have q1 := hl3.ob
      rw [z, g1] at q1; cases q1
    generalize hH4 : upd (upd (upd H1 k1 (.tup [.str "a", .str "f"])) k2 (.tup [.str "a", .str "f"])) d2 (.dT (putK [] [.inr "a", .inr "f"] (.int 0))) = H4
    have p1 : H4 a = some (.ins (He.ga K "Linker") dx [("objects", .ref d1), ("order", .ref l1), ("numbers", .ref d2)]) := by rw [← hH4, upd_ne ad]; exact hl3.at_
    have p2 : H4 l1 = some (.lst []) := by rw [← hH4, upd_ne ld]; exact g1
    have p3 : H4 d2 = some (.dT [([.inr "a", .inr "f"], .int 0)]) := by rw [← hH4]; exact upd_same
    have p4 : H4 d1 = some (.dK [(.inr "a", o)]) := by rw [← hH4, upd_ne od]; exact hl3.ob
    have p5 : Same H0 H4 := by rw [← hH4]; exact hl3.s.upd_new hl3.nd
    refine ⟨_, rfl, a, _, dx, _, .ref l1, rfl, p1, T.c_Linker, T.n_Linker_order, rfl, ?_⟩
    refine ⟨?_, _, rfl, _, rfl, (by show 2 ≤ sizeLine; decide), fun k3 hk3 => ?_⟩
    · exact .inl ⟨rfl, _, sql_new p2⟩
    have n1 : l1 ≠ k3 := fun z => by rw [← z, p2] at hk3; cases hk3
    have s5 : Same H4 (upd H4 k3 (.tup [.str "a", .str "f"])) := Same.one hk3
    refine ⟨l1, [], .ref k3, rfl, rfl, s5 _ _ p2, by decide, ?_⟩
    generalize hH6 : upd (upd H4 k3 (.tup [.str "a", .str "f"])) l1 (.lst ([] ++ [.ref k3])) = H6
    have r1 : H6 a = some (.ins (He.ga K "Linker") dx [("objects", .ref d1), ("order", .ref l1), ("numbers", .ref d2)]) := by rw [← hH6, upd_ne al]; exact s5 _ _ p1
    have r2 : H6 l1 = some (.lst [.ref k3]) := by rw [← hH6]; exact upd_same
    have r3 : H6 d2 = some (.dT [([.inr "a", .inr "f"], .int 0)]) := by rw [← hH6, upd_ne ld.symm]; exact s5 _ _ p3
    have r4 : H6 d1 = some (.dK [(.inr "a", o)]) := by rw [← hH6, upd_ne ol]; exact s5 _ _ p4
    have r5 : Same H0 H6 := by rw [← hH6]; exact (p5.trans s5).upd_new hl3.nl
    have r6 : H6 k3 = some (.tup [.str "a", .str "f"]) := by rw [← hH6, upd_ne n1.symm]; exact upd_same
    have hl6 : Lk K H0 a dx d1 l1 d2 o c 1 H6 := ⟨r5, hl.na, hl.nl, hl.nd, r1, r4, (fun z => nomatch z), fun _ => ⟨k3, r2, sqt_new r6, r3⟩, hl.dat⟩
    refine ⟨_, rfl, a, _, dx, _, .ref d2, rfl, r1, T.c_Linker, T.n_Linker_numbers, rfl, _, rfl, _, rfl, (by show 2 ≤ sizeLine; decide), fun k4 hk4 => ?_⟩
    have hl7 := hl6.same (Same.one (o := .tup [.str "a", .str "f"]) hk4)
    obtain ⟨_, _, _, t3⟩ := hl7.or1 rfl
    exact ⟨d2, .int 0, rfl, DGet.t (k := [.inr "a", .inr "f"]) t3 upd_same, q3 rfl rfl _ hl7⟩
theorem ok_Lr : FnOk P w K mg base (L2.CX P w) 3 (He.ma K (He.ga K "Linker") "run") T.d_Linker_run ["self", "entry"] (spLr K) := by
  have G_Linker_function := ok_Lf (P := P) (w := w) (base := base) T
  have G_Linker_number := ok_Ln (P := P) (w := w) (base := base) T
  have G_Linker_linked := ok_Lk (P := P) (w := w) (base := base) T
  refine T.F_Linker_run.ok sc_Linker_run (fun vs H Q E h => ?_) (fun cdv A outer s H vs Q E hr h => ?_)
  · obtain ⟨H0, a, dx, d1, l1, d2, o, c, u, m, p, rfl, _⟩ := h; rfl
  · obtain ⟨H0, a, dx, d1, l1, d2, o, c, u, m, p, rfl, hp, hl, q1, q2, q3⟩ := h
    refine ⟨_, (pss_cons (ps_expr (R71.pe_methS (pv 0) T.c_Linker T.mt_Linker_number G_Linker_number (hr.mono (by omega)) T.b_Linker_number (fun σ => passAt (takes_of rfl rfl rfl rfl) σ) (pa_cons (pe_ix (r := rIxT K) ix_tup (pv 1) pe_int (fun _ _ => rfl)) (pa_cons (pe_ix (r := rIxT K) ix_tup (pv 1) pe_int (fun _ _ => rfl)) pa_nil))))
    (pss_cons (ps_set (i := 2) sc_Linker_run.nd rfl (.inl rfl) (pe_lst pa_nil))
    (pss_cons (ps_while (passes_of rfl) (pt_cmpR op_lt (pe_callB (r := rLenS K) call_len_seq (by rfl) T.len (by decide +kernel) (pa_cons (pv 2) pa_nil)) (pe_callB (r := rLenS K) call_len_seq (by rfl) T.len (by decide +kernel) (pa_cons (pe_fld (pv 0) rfl) pa_nil)) (nomark _))
    (pss_cons (ps_asg (pe_ix (r := rIxL K) ix_list (pe_fld (pv 0) rfl) (pe_callB (r := rLenS K) call_len_seq (by rfl) T.len (by decide +kernel) (pa_cons (pv 2) pa_nil)) (fun _ _ => rfl)) (pg_tup rfl (pgs_cons (pg_name (i := 3) sc_Linker_run.nd rfl (.inl rfl)) (pgs_cons (pg_name (i := 4) sc_Linker_run.nd rfl (.inl rfl)) pgs_nil))))
    (pss_cons (ps_set (i := 5) sc_Linker_run.nd rfl (.inl rfl) (R71.pe_methS (pv 0) T.c_Linker T.mt_Linker_function G_Linker_function (hr.mono (by omega)) T.b_Linker_function (fun σ => passAt (takes_of rfl rfl rfl rfl) σ) (pa_cons (pv 3) (pa_cons (pv 4) pa_nil))))
    (pss_cons (ps_set (i := 6) sc_Linker_run.nd rfl (.inl rfl) (pe_callTy (r := rTupOf K) call_tuple_of (by rfl) T.tuple (by decide +kernel) (pa_cons (pe_lc (own := [("one", 7)]) (g := gName 7) (tt := tYes) (by rfl) sc_Linker_run.nd (pi_tup (pe_ix (r := rIxT K) ix_tup (pv 5) pe_int (fun _ _ => rfl))) (blkOk_by (own := [("one", 7)]) (N := ["self", "entry", "found", "unit", "name", "own", "code", "one"]) (sc := defScope s_Linker_run) (by decide +kernel)) (fun _ _ _ _ _ => (pg_name (i := 7) sc_Linker_run.nd rfl (.inl rfl))) (fun _ _ _ _ _ => pts_nil) (fun _ _ _ _ _ => (pe_meth (pv 0) T.c_Linker T.mt_Linker_linked G_Linker_linked (hr.mono (by omega)) T.b_Linker_linked .nil pass0 (pa_cons (pv 7) pa_nil)))) pa_nil)))
    (pss_one (ps_expr (pe_bm PySem.F.plainAttrs_list PySem.F.slot_list_append PySem.F.type_list_append mt_append (pv 2) (pa_cons (pe_op (r := rCatA K) op_catA (pe_op (r := rCatA K) op_catA (pe_tup (pa_cons (pe_op op_add_str (pe_op op_add_str (pv 3) pe_str) (pv 4)) pa_nil)) (pe_slice sl_tupA (pv 5) (po_some pe_int) (po_some pe_int))) (pe_tup (pa_cons (pv 6) (pa_cons (pe_ix (r := rIxT K) ix_tup (pv 5) pe_int (fun _ _ => rfl)) pa_nil)))) pa_nil))))))))
    (pss_one (ps_ret (pe_callTy (r := rTupOf K) call_tuple_of (by rfl) T.tuple (by decide +kernel) (pa_cons (pv 2) pa_nil))))))), ?_⟩
    refine ⟨_, rfl, a, dx, _, rfl, hl.at_, rfl, _, rfl, p, _, 0, _, rfl, rfl, hp, rfl, _, rfl, p, _, 1, _, rfl, rfl, hp, rfl, H0, a, dx, d1, l1, d2, o, c, u, m, rfl, hl, q1, q2, fun hu hm H1 hl1 => ?_⟩
    subst hu hm
    refine ⟨(by decide), fun lf hlf => ?_⟩
    refine ⟨fun m σ H' => Lk K H0 a dx d1 l1 d2 o c 1 H' ∧ H0 lf = none ∧ lf ≠ a ∧ lf ≠ d1 ∧ lf ≠ l1 ∧ lf ≠ d2 ∧ (∃ x3 x4 x5 x6 x7, σ = [some (.ref a), some (.ref p), some (.ref lf), x3, x4, x5, x6, x7]) ∧ ((m = 1 ∧ H' lf = some (.lst [])) ∨ (m = 0 ∧ ∃ y, H' lf = some (.lst [y]))), ⟨1, ?_⟩, ?_⟩
    · have hm := hl1.same (Same.one (o := .lst []) hlf)
      obtain ⟨t, t1, _, t3⟩ := hl1.or1 rfl
      refine ⟨hm, ?_, ?_, ?_, ?_, ?_, ⟨_, _, _, _, _, rfl⟩, .inl ⟨rfl, upd_same⟩⟩
      · cases q : H0 lf with
        | none => rfl
        | some u => rw [hl1.s _ _ q] at hlf; cases hlf
      · intro z; rw [z, hl1.at_] at hlf; cases hlf
      · intro z; rw [z, hl1.ob] at hlf; cases hlf
      · intro z; rw [z, t1] at hlf; cases hlf
      · intro z; rw [z, t3] at hlf; cases hlf
    rintro m σ H2 ⟨hl2, n0, na, nb, nc, nd, ⟨x3, x4, x5, x6, x7, rfl⟩, hm⟩
    obtain ⟨t, t1, t2, t3⟩ := hl2.or1 rfl
    rcases hm with ⟨rfl, hm⟩ | ⟨rfl, y, hm⟩
    · refine ⟨_, rfl, lf, _, rfl, .inl (sql_new hm), _, rfl, a, _, dx, _, .ref l1, rfl, hl2.at_, T.c_Linker, T.n_Linker_order, rfl, l1, _, rfl, .inl (sql_new t1), _, _, rfl, rfl, true, rfl, iteT ?_⟩
      refine ⟨fun σ' H' => Lk K H0 a dx d1 l1 d2 o c 1 H' ∧ H0 lf = none ∧ lf ≠ a ∧ lf ≠ d1 ∧ lf ≠ l1 ∧ lf ≠ d2 ∧ (∃ x3 x4 x5 x6 x7, σ' = [some (.ref a), some (.ref p), some (.ref lf), x3, x4, x5, x6, x7]) ∧ ∃ y, H' lf = some (.lst [y]),
        fun σ' H' h => ⟨0, by decide, h.1, h.2.1, h.2.2.1, h.2.2.2.1, h.2.2.2.2.1, h.2.2.2.2.2.1, h.2.2.2.2.2.2.1, .inr ⟨rfl, h.2.2.2.2.2.2.2⟩⟩, ?_⟩
      refine ⟨_, rfl, a, _, dx, _, .ref l1, rfl, hl2.at_, T.c_Linker, T.n_Linker_order, rfl, _, rfl, lf, _, rfl, .inl (sql_new hm), l1, _, 0, .ref t, rfl, rfl, sql_new t1, rfl, t, _, rfl, t2, rfl, _, _, rfl, _, _, rfl, rfl, ?_⟩
      refine ⟨_, rfl, a, dx, _, rfl, hl2.at_, rfl, _, rfl, _, rfl, H0, a, dx, d1, l1, d2, o, c, 1, _, _, rfl, hl2, fun h => absurd rfl h, fun _ h => absurd rfl h, fun _ _ H3 f s3 hf => ?_⟩
      have hl3 := hl2.same s3
      have hm3 := s3 _ _ hm
      obtain ⟨pf, cd, i, sh, rfl, h4, h5, h6⟩ := dpl hf
      refine ⟨_, rfl, pf, _, 4, .ref cd, rfl, rfl, hl3.s.sqt h4, atI_nat (j := 4) rfl, cd, rfl, ⟨_, hl3.s.sqt h5⟩, fun D hD => ?_⟩
      refine lc_it (walk_tup (xs := [.ref i])) (LcS H3 D fun _ => [.ref i]) (LcS.zero hD fun _ => by simp) (fun _ H' _ hP => hP.1.sqt (hl3.s.sqt h5)) (fun j x H4 H5 hj hP hy => ?_) (fun H4 hP => ?_)
      · obtain ⟨rfl, hx⟩ := hy
        have hj0 : j = 0 := by simp at hj; exact hj
        subst hj0
        cases hx
        have hl5 := hl3.same hP.1
        exact ⟨rfl, _, rfl, a, dx, _, rfl, hl5.at_, rfl, _, rfl, H0, a, dx, d1, l1, d2, o, c, 1, i, rfl, hl5, hl5.s.sqt h6, hP.yes hD (Same.refl _) rfl (by decide)⟩
      have hl4 := hl3.same hP.1
      have hm4 := hP.1 _ _ hm3
      refine ⟨D, _, rfl, .inl ⟨sql_new hP.2.1, fun k0 hk0 => ?_⟩⟩
      have hl5 := hl4.same (Same.one (o := .tup ((List.range 1).flatMap fun _ => [V.ref i])) hk0)
      have hm5 := Same.one (o := .tup ((List.range 1).flatMap fun _ => [V.ref i])) hk0 _ _ hm4
      generalize upd H4 k0 (.tup ((List.range 1).flatMap fun _ => [V.ref i])) = H5 at hl5 hm5
      refine ⟨_, rfl, .inl ⟨rfl, _, sql_new hm5⟩, ?_⟩
      have h4' := h4
      have ed : ∀ {H'}, Lk K H0 a dx d1 l1 d2 o c 1 H' → SqT K H' pf [.str "f", .int 0, .int c, .int 0, .ref cd, sh] := fun {H'} z => z.s.sqt h4
      refine ⟨_, rfl, _, _, rfl, rfl, (by decide), _, rfl, _, _, rfl, rfl, (by decide), (by show 1 ≤ sizeLine; decide), fun k1 hk1 => ?_⟩
      generalize hx1 : HO.tup [.str (("a" : Str) ++ "." ++ "f")] = T1
      have sA := Same.one (o := T1) hk1
      refine ⟨_, rfl, 1, rfl, 4, rfl, pf, _, rfl, sA.sqt (ed hl5), fun h => absurd h.1 (show ¬ HT.sIx 6 0 (some 1) = 0 by decide), fun _ k2 hk2 => ?_⟩
      have hT1 : upd H5 k1 T1 k1 = some (.tup [.str (("a" : Str) ++ "." ++ "f")]) := by rw [← hx1]; exact upd_same
      generalize hx2 : HO.tup (cutV [.str "f", .int 0, .int c, .int 0, .ref cd, sh] (some 1) (some 4)) = T2
      have sB := Same.one (o := T2) hk2
      have hT2 : upd (upd H5 k1 T1) k2 T2 k2 = some (.tup (cutV [.str "f", .int 0, .int c, .int 0, .ref cd, sh] (some 1) (some 4))) := by rw [← hx2]; exact upd_same
      refine ⟨k1, k2, _, _, rfl, rfl, sqt_new (sB _ _ hT1), sqt_new hT2, (by show 1 + 3 ≤ sizeLine; decide), (fun h => nomatch h), (fun _ h => nomatch h), fun _ _ k3 hk3 => ?_⟩
      generalize hx3 : HO.tup ([.str (("a" : Str) ++ "." ++ "f")] ++ cutV [.str "f", .int 0, .int c, .int 0, .ref cd, sh] (some 1) (some 4)) = T3
      have sC := Same.one (o := T3) hk3
      have sAC := (sA.trans sB).trans sC
      have hT3 : upd (upd (upd H5 k1 T1) k2 T2) k3 T3 k3 = some (.tup ([.str (("a" : Str) ++ "." ++ "f")] ++ cutV [.str "f", .int 0, .int c, .int 0, .ref cd, sh] (some 1) (some 4))) := by rw [← hx3]; exact upd_same
      have hl8 := hl5.same sAC
      have hm8 := sAC _ _ hm5
      generalize upd (upd (upd H5 k1 T1) k2 T2) k3 T3 = H8 at hT3 hl8 hm8
      refine ⟨_, rfl, _, rfl, pf, _, 5, sh, rfl, rfl, ed hl8, atI_nat (j := 5) rfl, (by show 2 ≤ sizeLine; decide), fun k4 hk4 => ?_⟩
      have sD := Same.one (o := .tup [.ref k0, sh]) hk4
      refine ⟨k3, k4, _, _, rfl, rfl, sqt_new (sD _ _ hT3), sqt_new upd_same, (by show 4 + 2 ≤ sizeLine; decide), (fun h => nomatch h), (fun _ h => nomatch h), fun _ _ k5 hk5 => ?_⟩
      generalize hx5 : HO.tup (([.str (("a" : Str) ++ "." ++ "f")] ++ cutV [.str "f", .int 0, .int c, .int 0, .ref cd, sh] (some 1) (some 4)) ++ [.ref k0, sh]) = T5
      have sE := sD.trans (Same.one (o := T5) hk5)
      have hl9 := hl8.same sE
      have hm9 := sE _ _ hm8
      exact ⟨lf, [], .ref k5, rfl, rfl, hm9, (by decide), hl9.put n0 na nb nc nd hm9, n0, na, nb, nc, nd, ⟨_, _, _, _, _, rfl⟩, .ref k5, upd_same⟩
    · refine ⟨_, rfl, lf, _, rfl, .inl (sql_new hm), _, rfl, a, _, dx, _, .ref l1, rfl, hl2.at_, T.c_Linker, T.n_Linker_order, rfl, l1, _, rfl, .inl (sql_new t1), _, _, rfl, rfl, false, rfl, iteF ?_⟩
      exact ⟨_, rfl, lf, _, rfl, .inl ⟨sql_new hm, fun k hk => q3 rfl rfl _ _ (hl2.same (Same.one hk))⟩⟩
theorem ok_linked : FnOk P w K mg base (L2.CX P w) 4 (He.ga K "linked") T.d_linked ["objects", "entry"] (spLd K) := by
  have G_Linker_function := ok_Lf (P := P) (w := w) (base := base) T
  have G_Linker_run := ok_Lr (P := P) (w := w) (base := base) T
  have G_Linker___init__ := ok_Li (P := P) (w := w) (base := base) T
  refine T.F_linked.ok sc_linked (fun vs H Q E h => ?_) (fun cdv A outer s H vs Q E hr h => ?_)
  · obtain ⟨l, o, c, u, m, p, rfl, _⟩ := h; rfl
  · obtain ⟨l, o, c, u, m, p, rfl, hp, hd, q⟩ := h
    refine ⟨_, (pss_cons (ps_set (i := 2) sc_linked.nd rfl (.inl rfl) (R71.pe_makeS T.m_Linker G_Linker___init__ (hr.mono (by omega)) (by rfl) T.g_Linker T.b_Linker___init__ (fun σ => passAt (takes_of rfl rfl rfl rfl) σ) (pa_cons (pv 0) pa_nil)))
    (pss_cons (ps_set (i := 3) sc_linked.nd rfl (.inl rfl) (R71.pe_methS (pv 2) T.c_Linker T.mt_Linker_run G_Linker_run (hr.mono (by omega)) T.b_Linker_run (fun σ => passAt (takes_of rfl rfl rfl rfl) σ) (pa_cons (pv 1) pa_nil)))
    (pss_cons (ps_if (PW.pt (pw_or (pt_cmpR op_ne (pe_ix (r := rIxT K) ix_tup (R71.pe_methS (pv 2) T.c_Linker T.mt_Linker_function G_Linker_function (hr.mono (by omega)) T.b_Linker_function (fun σ => passAt (takes_of rfl rfl rfl rfl) σ) (pa_cons (pe_ix (r := rIxT K) ix_tup (pv 1) pe_int (fun _ _ => rfl)) (pa_cons (pe_ix (r := rIxT K) ix_tup (pv 1) pe_int (fun _ _ => rfl)) pa_nil))) pe_int (fun _ _ => rfl)) pe_int (nomark _)) (pw_or1 pt_dead)))
    (pss_one (ps_raise rfl (takes_of rfl rfl rfl rfl) (SkE.pmk_own1 PySem.F.excBase_ValueError T.e_OtherShape.1 T.g_OtherShape T.e_OtherShape.2.1 (raises_own T.e_OtherShape.2.2.1 T.e_OtherShape.2.2.2) (by exact rfl) pe_str)))
    pss_nil)
    pss_dead))), ?_⟩
    refine ⟨_, rfl, fun a dx ha hdx hne => ?_⟩
    have hda : a ≠ dx := hne.symm
    have sm : Same H (hid a (upd (upd H dx (.own a)) a (.ins (He.ga K "Linker") dx []))) := fun b u hb => by
      have h1 : b ≠ a := fun z => by rw [z, ha] at hb; cases hb
      have h2 : b ≠ dx := fun z => by rw [z, hdx] at hb; cases hb
      rw [hid_at h1, upd_ne h1, upd_ne h2]; exact hb
    refine ⟨a, dx, l, o, c, rfl, upd_same, hd.same sm, ?_⟩
    rcases q with ⟨hs, q⟩ | ⟨hs, q1, q2, q3⟩
    · exact .inr ⟨sm.seq hs, fun H' b => q _ (sm.trans b.le)⟩
    refine .inl ⟨sm.seq hs, fun H1 d1 l1 d2 hl => ⟨rfl, ?_⟩⟩
    have s1 := sm.trans hl.s
    refine ⟨_, rfl, a, dx, _, rfl, hl.at_, rfl, _, rfl, _, a, dx, d1, l1, d2, o, c, u, m, p, rfl, s1.sqt hp, hl, fun h => q1 h _ s1, fun h1 h2 H' s2 => q2 h1 h2 _ (s1.trans s2), fun hu hm H2 r hl2 => ?_⟩
    subst hu hm
    have s2 := sm.trans hl2.s
    obtain ⟨hc, q⟩ := q3 rfl rfl
    refine ⟨_, rfl, a, dx, _, rfl, hl2.at_, rfl, _, rfl, p, _, 0, _, rfl, rfl, s2.sqt hp, rfl, _, rfl, p, _, 1, _, rfl, rfl, s2.sqt hp, rfl, _, a, dx, d1, l1, d2, o, c, 1, _, _, rfl, hl2, fun h => absurd rfl h, fun _ h => absurd rfl h, fun _ _ H3 f s3 hf => ?_⟩
    obtain ⟨pf, cd, i, sh, rfl, h4, _⟩ := dpl hf
    refine ⟨pf, _, 2, .int c, rfl, rfl, (hl2.s.trans s3).sqt h4, atI_nat (j := 2) rfl, rfl, true, ?_, ?_⟩
    · have : V.int (c : Nat) ≠ V.int 0 := fun z => hc (by have := V.int.inj z; omega)
      rw [decide_eq_false this]; rfl
    · exact q _ (s2.trans s3)
end
end K71

set_option Elab.async false
set_option linter.all false
set_option maxRecDepth 100000
set_option maxHeartbeats 4000000
namespace K71
open PySem PySem.Spec PyProof.Rows L2
theorem at_v {xs : List V} {j : Int} {n : Nat} {v : V} (e : xs[n]? = some v) (h : j = (n : Nat)) : atI xs j = some v := by rw [h]; exact atI_nat e
def rowN (n : Nat) : List V := [.int 87, .int 68] ++ List.replicate n (.int 5)
theorem rowN_len (n : Nat) : (rowN n).length = n + 2 := by simp [rowN]
theorem rowN_at {n i : Nat} (h2 : 2 ≤ i) (h : i < n + 2) : (rowN n)[i]? = some (.int 5) := by
  unfold rowN
  rw [List.getElem?_append_right (by simpa using h2), List.getElem?_replicate, if_pos (by simp; omega)]
structure Rdr (K : PySem.W.Frag) (H0 : Hp) (a dx rw : Addr) (n i : Nat) (H : Hp) : Prop where
  s : Same H0 H
  na : H0 a = none
  at_ : H a = some (.ins (He.ga K "Reader") dx [("row", .ref rw), ("at", .int i)])
  row : SqT K H0 rw (rowN n)
theorem Rdr.same {K : PySem.W.Frag} {H0 H H' : Hp} {a dx rw : Addr} {n i : Nat} (h : Rdr K H0 a dx rw n i H) (s : Same H H') : Rdr K H0 a dx rw n i H' := ⟨h.s.trans s, h.na, s _ _ h.at_, h.row⟩
theorem Rdr.put {K : PySem.W.Frag} {H0 H : Hp} {a dx rw : Addr} {n i : Nat} (h : Rdr K H0 a dx rw n i H) (j : Nat) : Rdr K H0 a dx rw n j (upd H a (.ins (He.ga K "Reader") dx [("row", .ref rw), ("at", .int j)])) := ⟨h.s.upd_new h.na, h.na, upd_same, h.row⟩
theorem Rdr.base {K : PySem.W.Frag} {H0 H : Hp} {a dx rw : Addr} {n i : Nat} (h : Rdr K H0 a dx rw n i H) : Same H0 (hid a H) := fun b u e => by
  rw [hid_at (fun z => by rw [z, h.na] at e; cases e)]; exact h.s b u e
theorem Rdr.reb {K : PySem.W.Frag} {H0 H : Hp} {a dx rw : Addr} {n i : Nat} (h : Rdr K H0 a dx rw n i H) : Rdr K (hid a H) a dx rw n i H := ⟨hid_le a H, by unfold hid; rw [if_pos rfl], h.at_, h.base.sqt h.row⟩
def eBI (K : PySem.W.Frag) (H0 : Hp) (E : XK) : Prop := ∀ H' d fs, Same H0 H' → H' d = some (.xd fs) → E (.ref (He.ga K "BadImage")) (some d) H'
def spRi (K : PySem.W.Frag) : Sp := fun vs H Q _ => ∃ (a dx : Addr) (v : V), vs = [.ref a, v] ∧ H a = some (.ins (He.ga K "Reader") dx []) ∧ ∀ H', But a H H' → H' a = some (.ins (He.ga K "Reader") dx [("row", v), ("at", .int 0)]) → Q .non H'
def spBy (K : PySem.W.Frag) : Sp := fun vs H Q E => ∃ (H0 : Hp) (a dx rw : Addr) (n i : Nat), vs = [.ref a] ∧ Rdr K H0 a dx rw n i H ∧ n ≤ 8 ∧ i ≤ 20 ∧ (n + 1 ≤ i → eBI K H0 E) ∧ (i < n + 1 → ∀ H' x, Rdr K H0 a dx rw n (i + 1) H' → (rowN n)[i]? = some x → Q x H')
def spNm (K : PySem.W.Frag) : Sp := fun vs H Q E => ∃ (H0 : Hp) (a dx rw : Addr) (n i : Nat), vs = [.ref a] ∧ Rdr K H0 a dx rw n i H ∧ n ≤ 8 ∧ 2 ≤ i ∧ i ≤ 20 ∧ (n + 1 ≤ i → eBI K H0 E) ∧ (i < n + 1 → ∀ H', Rdr K H0 a dx rw n (i + 1) H' → Q (.int 5) H')
def spLt (K : PySem.W.Frag) : Sp := fun vs H Q E => ∃ (H0 : Hp) (a dx rw : Addr) (n i : Nat), vs = [.ref a] ∧ Rdr K H0 a dx rw n i H ∧ n ≤ 8 ∧ 2 ≤ i ∧ i ≤ 20 ∧ (n + 1 ≤ i → eBI K H0 E) ∧ (i < n + 1 → ∀ H', Rdr K H0 a dx rw n (i + 1) H' → Q (.str "f") H')
def spFn (K : PySem.W.Frag) : Sp := fun vs H Q E => ∃ (H0 : Hp) (a dx rw : Addr) (n i : Nat), vs = [.ref a] ∧ Rdr K H0 a dx rw n i H ∧ n ≤ 8 ∧ 4 ≤ i ∧ i ≤ 9 ∧ eBI K H0 E
def spIf (K : PySem.W.Frag) : Sp := fun vs H Q E => ∃ (rw : Addr) (n : Nat), vs = [.ref rw] ∧ SqT K H rw (rowN n) ∧ n ≤ 8 ∧ eBI K H E
section
variable {P : Program} {w : World} {K : PySem.W.Frag} {mg : Str → Option Value} {base : Heap} (T : Txt K mg) (S : Ext P w K mg)
include T
theorem ok_Ri : FnOk P w K mg base CX0 1 (He.ma K (He.ga K "Reader") "__init__") T.d_Reader___init__ ["self", "row"] (spRi K) := by
  refine T.F_Reader___init__.ok sc_Reader___init__ (fun vs H Q E h => ?_) (fun cdv A outer s H vs Q E hr h => ?_)
  · obtain ⟨a, dx, t, rfl, _⟩ := h; rfl
  · obtain ⟨a, dx, t, rfl, ha, q⟩ := h
    refine ⟨_, PSs.nox (pss_cons (ps_fld (pv 0) (pv 1) rfl)
    (pss_one (ps_fld (pv 0) pe_int rfl))), ?_⟩
    refine ⟨_, rfl, _, rfl, a, _, dx, _, rfl, ha, T.c_Reader, T.n_Reader_row, by decide, ?_⟩
    refine ⟨_, rfl, a, _, dx, _, rfl, upd_same, T.c_Reader, T.n_Reader_at, (by show (1 : Nat) < 1000; decide), ?_⟩
    exact q _ (But.set.trans But.set) upd_same
include S
theorem ok_byte : FnOk P w K mg base (L2.CX P w) 8 (He.ma K (He.ga K "Reader") "byte") T.d_Reader_byte ["self"] (spBy K) := by
  refine T.F_Reader_byte.ok sc_Reader_byte (fun vs H Q E h => ?_) (fun cdv A outer s H vs Q E hr h => ?_)
  · obtain ⟨H0, a, dx, rw, n, i, rfl, _⟩ := h; rfl
  · obtain ⟨H0, a, dx, rw, n, i, rfl, hd, hn, hi, q1, q2⟩ := h
    refine ⟨_, (pss_cons (ps_if (pt_cmpR op_ge (pe_fld (pv 0) rfl) (pe_op op_sub (pe_callB (r := rLenS K) call_len_seq (by rfl) T.len (by decide +kernel) (pa_cons (pe_fld (pv 0) rfl) pa_nil)) pe_int) (nomark _))
    (pss_one (ps_raise rfl (takes_of rfl rfl rfl rfl) (pmk_oex S.o_BadImage S.i_BadImage S.t_BadImage (S.f_BadImage _) (hr.mono (by omega)) S.b_BadImage .nil pass0 (by rfl) T.g_BadImage (pa_cons (pe_fld (pv 0) rfl) pa_nil))))
    pss_nil)
    (pss_cons (ps_fldaug (pv 0) pe_int in_add)
    (pss_one (ps_ret (pe_ix (r := rIxT K) ix_tup (pe_fld (pv 0) rfl) (pe_op op_sub (pe_fld (pv 0) rfl) pe_int) (fun _ _ => rfl)))))), ?_⟩
    refine ⟨_, rfl, a, _, dx, _, .int i, rfl, hd.at_, T.c_Reader, T.n_Reader_at, rfl, _, rfl, a, _, dx, _, .ref rw, rfl, hd.at_, T.c_Reader, T.n_Reader_row, rfl, rw, _, rfl, .inr (hd.s.sqt hd.row), _, _, rfl, rfl, _, _, rfl, rfl, _, rfl, ?_⟩
    rw [rowN_len]
    refine ite2 (fun c => ?_) (fun c => ?_)
    · have hc : n + 1 ≤ i := by have := of_decide_eq_true c; omega
      exact ⟨_, rfl, a, _, dx, _, .int i, rfl, hd.at_, T.c_Reader, T.n_Reader_at, rfl, (by show 1 ≤ 1000; decide), fun e he => mk_exc ⟨i, rfl, by omega⟩ he fun H' d s hx => q1 hc H' d _ (hd.s.trans s) hx⟩
    have hc : i < n + 1 := by
      by_cases h : n + 1 ≤ i
      · exact absurd (decide_eq_true (by omega)) c
      · omega
    refine ⟨_, rfl, a, _, dx, _, _, rfl, hd.at_, T.c_Reader, T.n_Reader_at, rfl, _, _, rfl, rfl, dx, _, hd.at_, (by show (2 : Nat) < 1000; decide), ?_⟩
    have h2 : Rdr K H0 a dx rw n (i + 1) (upd H a (.ins (He.ga K "Reader") dx (putF "at" (.int ((i : Int) + 1)) [("row", .ref rw), ("at", .int i)]))) := hd.put (i + 1)
    have hx : (rowN n)[i]? = some ((rowN n)[i]'(by rw [rowN_len]; omega)) := List.getElem?_eq_getElem _
    exact ⟨_, rfl, a, _, dx, _, .ref rw, rfl, h2.at_, T.c_Reader, T.n_Reader_row, rfl, _, rfl, a, _, dx, _, .int ((i + 1 : Nat) : Int), rfl, h2.at_, T.c_Reader, T.n_Reader_at, rfl, _, _, rfl, rfl, rw, _, _, _, rfl, rfl, h2.s.sqt h2.row, at_v hx (by omega), q2 hc _ _ h2 hx⟩
theorem ok_numb : FnOk P w K mg base (L2.CX P w) 9 (He.ma K (He.ga K "Reader") "number") T.d_Reader_number ["self"] (spNm K) := by
  have G_Reader_byte := ok_byte (P := P) (w := w) (base := base) T S
  refine T.F_Reader_number.ok sc_Reader_number (fun vs H Q E h => ?_) (fun cdv A outer s H vs Q E hr h => ?_)
  · obtain ⟨H0, a, dx, rw, n, i, rfl, _⟩ := h; rfl
  · obtain ⟨H0, a, dx, rw, n, i, rfl, hd, hn, h2, hi, q1, q2⟩ := h
    refine ⟨_, (pss_cons (ps_set (i := 1) sc_Reader_number.nd rfl (.inl rfl) (pe_fld (pv 0) rfl))
    (pss_cons (ps_set (i := 2) sc_Reader_number.nd rfl (.inl rfl) pe_int)
    (pss_cons (ps_set (i := 3) sc_Reader_number.nd rfl (.inl rfl) pe_int)
    (pss_cons (ps_set (i := 4) sc_Reader_number.nd rfl (.inl rfl) pe_int)
    (pss_cons (ps_while (passes_of rfl) (pt_cmpR op_gt (pv 4) pe_int (nomark _))
    (pss_cons (ps_set (i := 4) sc_Reader_number.nd rfl (.inl rfl) (R71.pe_methS0 (pv 0) T.c_Reader T.mt_Reader_byte G_Reader_byte (hr.mono (by omega)) T.b_Reader_byte (fun σ => passAt (takes_of rfl rfl rfl rfl) σ)))
    (pss_cons (ps_aug (i := 2) sc_Reader_number.nd rfl (.inl rfl) (pe_op op_mul (pe_op op_modN (pv 4) pe_int) (pv 3)) ip_add)
    (pss_cons (ps_aug (i := 3) sc_Reader_number.nd rfl (.inl rfl) pe_int R71.ip_mul)
    (pss_one (ps_if (PW.pt (pw_or (pt_cmpR op_gt (pv 2) (pe_gi (i := 999999) rfl T.MOST) (nomark _)) (pw_or1 (PW.pt (pw_and (pt_cmpR op_eq (pv 4) pe_int (nomark _)) (pw_and1 (pt_cmpR op_gt (pe_op op_sub (pe_fld (pv 0) rfl) (pv 1)) pe_int (nomark _))))))))
    (pss_one (ps_raise rfl (takes_of rfl rfl rfl rfl) (pmk_oex S.o_BadImage S.i_BadImage S.t_BadImage (S.f_BadImage _) (hr.mono (by omega)) S.b_BadImage .nil pass0 (by rfl) T.g_BadImage (pa_cons (pe_op op_sub (pe_fld (pv 0) rfl) pe_int) pa_nil))))
    pss_nil))))))
    (pss_one (ps_ret (pv 2)))))))), ?_⟩
    refine ⟨_, rfl, a, _, dx, _, .int i, rfl, hd.at_, T.c_Reader, T.n_Reader_at, rfl, ?_⟩
    refine ⟨fun m σ H' => (m = 1 ∧ σ = [some (.ref a), some (.int i), some (.int 0), some (.int 1), some (.int 128)] ∧ H' = H) ∨ (m = 0 ∧ σ = [some (.ref a), some (.int i), some (.int 5), some (.int 128), some (.int 5)] ∧ i < n + 1 ∧ Rdr K H0 a dx rw n (i + 1) H'), ⟨1, .inl ⟨rfl, rfl, rfl⟩⟩, ?_⟩
    rintro m σ H1 (⟨rfl, rfl, rfl⟩ | ⟨rfl, rfl, hc, h1⟩)
    · refine ⟨_, rfl, _, _, rfl, rfl, true, rfl, iteT ?_⟩
      refine ⟨fun σ H' => σ = [some (.ref a), some (.int i), some (.int 5), some (.int 128), some (.int 5)] ∧ i < n + 1 ∧ Rdr K H0 a dx rw n (i + 1) H', fun σ' H' h => ⟨0, by decide, .inr ⟨rfl, h⟩⟩, ?_⟩
      refine ⟨_, rfl, a, dx, _, rfl, hd.at_, rfl, H0, a, dx, rw, n, i, rfl, hd, hn, hi, q1, fun hc H2 x h1 hx => ?_⟩
      rw [rowN_at h2 (by omega)] at hx
      cases hx
      refine ⟨_, rfl, _, rfl, _, _, rfl, rfl, (by decide), _, rfl, _, _, rfl, rfl, ?_, _, _, rfl, rfl, ?_⟩
      · exact .inr ⟨by decide, by decide⟩
      refine ⟨_, rfl, _, _, rfl, rfl, CMul.ok (.inr ⟨by decide, by decide⟩), ?_⟩
      refine ⟨_, rfl, _, _, rfl, rfl, false, rfl, ?_⟩
      exact ⟨_, rfl, rfl, false, rfl, iteF ⟨rfl, hc, h1⟩⟩
    · refine ⟨_, rfl, _, _, rfl, rfl, false, rfl, iteF ?_⟩
      exact ⟨_, rfl, q2 hc _ h1⟩
theorem ok_letter : FnOk P w K mg base (L2.CX P w) 9 (He.ma K (He.ga K "Reader") "letter") T.d_Reader_letter ["self"] (spLt K) := by
  have G_Reader_byte := ok_byte (P := P) (w := w) (base := base) T S
  refine T.F_Reader_letter.ok sc_Reader_letter (fun vs H Q E h => ?_) (fun cdv A outer s H vs Q E hr h => ?_)
  · obtain ⟨H0, a, dx, rw, n, i, rfl, _⟩ := h; rfl
  · obtain ⟨H0, a, dx, rw, n, i, rfl, hd, hn, h2, hi, q1, q2⟩ := h
    refine ⟨_, (pss_cons (ps_set (i := 1) sc_Reader_letter.nd rfl (.inl rfl) (R71.pe_methS0 (pv 0) T.c_Reader T.mt_Reader_byte G_Reader_byte (hr.mono (by omega)) T.b_Reader_byte (fun σ => passAt (takes_of rfl rfl rfl rfl) σ)))
    (pss_cons (ps_if (pt_cmpR op_ge (pv 1) (pe_callB call_len_str (by rfl) T.len (by decide +kernel) (pa_cons (pe_gs rfl T.LETTERS_image_bytes) pa_nil)) (nomark _))
    (pss_one (ps_raise rfl (takes_of rfl rfl rfl rfl) (pmk_oex S.o_BadImage S.i_BadImage S.t_BadImage (S.f_BadImage _) (hr.mono (by omega)) S.b_BadImage .nil pass0 (by rfl) T.g_BadImage (pa_cons (pe_op op_sub (pe_fld (pv 0) rfl) pe_int) pa_nil))))
    pss_nil)
    (pss_one (ps_ret (pe_ix (r := rIxS) ix_str (pe_gs rfl T.LETTERS_image_bytes) (pv 1) (fun _ _ => rfl)))))), ?_⟩
    refine ⟨_, rfl, a, dx, _, rfl, hd.at_, rfl, H0, a, dx, rw, n, i, rfl, hd, hn, hi, q1, fun hc H1 x h1 hx => ?_⟩
    rw [rowN_at h2 (by omega)] at hx
    cases hx
    have e27 : ("abcdefghijklmnopqrstuvwxyz." : Str).length = 27 := by decide +kernel
    refine ⟨_, rfl, _, rfl, (by rw [e27]; decide), _, _, rfl, rfl, _, rfl, ?_⟩
    rw [e27]
    refine iteF ?_
    have e5 : atI ("abcdefghijklmnopqrstuvwxyz." : Str).cps.toList 5 = some 102 := by decide +kernel
    exact ⟨_, rfl, _, 5, 102, rfl, rfl, (by rw [e27]; decide), e5, q2 hc _ h1⟩
theorem ok_func : FnOk P w K mg base (L2.CX P w) 10 (He.ma K (He.ga K "Reader") "function") T.d_Reader_function ["self"] (spFn K) := by
  have G_Reader_number := ok_numb (P := P) (w := w) (base := base) T S
  have G_Reader_letter := ok_letter (P := P) (w := w) (base := base) T S
  refine T.F_Reader_function.ok sc_Reader_function (fun vs H Q E h => ?_) (fun cdv A outer s H vs Q E hr h => ?_)
  · obtain ⟨H0, a, dx, rw, n, i, rfl, _⟩ := h; rfl
  · obtain ⟨H0, a, dx, rw, n, i, rfl, hd, hn, h4, hi, q⟩ := h
    refine ⟨_, (pss_cons (ps_set (i := 2) sc_Reader_function.nd rfl (.inl rfl) (pe_join pe_str (R71.pe_lcR (own := [("_", 1)]) (g := gName 1) (tt := tYes) (by rfl) rfl rfl (takes_of rfl rfl rfl rfl) sc_Reader_function.nd (pi_range1 (by rfl) T.range (pa_cons (R71.pe_methS0 (pv 0) T.c_Reader T.mt_Reader_number G_Reader_number (hr.mono (by omega)) T.b_Reader_number (fun σ => passAt (takes_of rfl rfl rfl rfl) σ)) pa_nil)) (blkOk_by (own := [("_", 1)]) (N := ["self", "_", "name", "params", "caught", "shelves", "code", "places"]) (sc := defScope s_Reader_function) (by decide +kernel)) (fun _ _ _ _ _ => (pg_name (i := 1) sc_Reader_function.nd rfl (.inl rfl))) (fun _ _ _ _ _ => pts_nil) (fun _ _ _ _ _ => (R71.pe_methS0 (pv 0) T.c_Reader T.mt_Reader_letter G_Reader_letter (hr.mono (by omega)) T.b_Reader_letter (fun _ => R71.passF))))))
    pss_dead), ?_⟩
    refine ⟨⟨_, rfl⟩, _, rfl, a, dx, _, rfl, hd.at_, rfl, H0, a, dx, rw, n, i, rfl, hd, hn, by omega, by omega, fun _ => q, fun hc H1 h1 => ?_⟩
    refine ⟨5, rfl, by decide, by decide, fun D hD => ?_⟩
    have Da : D ≠ a := fun z => by rw [z, h1.at_] at hD; cases hD
    have D0 : H0 D = none := by
      cases qq : H0 D with
      | none => rfl
      | some u => rw [h1.s _ _ qq] at hD; cases hD
    refine lc_range (lo := 0) (n := 5) (fun j H' => Rdr K H0 a dx rw n (i + 1 + j) H' ∧ i + 1 + j ≤ n + 1 ∧ ∃ acc, H' D = some (.lst acc) ∧ acc.length = j) ⟨h1.same (Same.one hD), by omega, [], upd_same, rfl⟩ (fun j H' hj hP => ?_) (fun H' hP => ?_)
    · obtain ⟨hr, hle, acc, hacc, hal⟩ := hP
      have hb := hr.reb
      refine ⟨rfl, _, rfl, a, dx, _, rfl, hr.at_, rfl, hid a H', a, dx, rw, n, i + 1 + j, rfl, hb, hn, by omega, by omega, fun _ H2 d fs s2 hx => q H2 d fs (hr.base.trans s2) hx, fun hc H2 h2 => ?_⟩
      have hD2 : H2 D = some (.lst acc) := h2.s _ _ (by rw [hid_at Da]; exact hacc)
      refine ⟨acc, hD2, Nat.lt_of_le_of_lt (by omega : acc.length ≤ 5) (by decide), ⟨(hr.base.trans h2.s).upd_new D0, hr.na, by rw [upd_ne Da.symm]; exact h2.at_, hr.row⟩, by omega, _, upd_same, by rw [List.length_append, hal]; rfl⟩
    · exact absurd hP.2.1 (by omega)
theorem ok_image_from : FnOk P w K mg base (L2.CX P w) 11 (He.ga K "image_from") T.d_image_from ["row"] (spIf K) := by
  have G_Reader_number := ok_numb (P := P) (w := w) (base := base) T S
  have G_Reader_byte := ok_byte (P := P) (w := w) (base := base) T S
  have G_Reader_function := ok_func (P := P) (w := w) (base := base) T S
  have G_Reader___init__ := ok_Ri (P := P) (w := w) (base := base) T
  refine T.F_image_from.ok sc_image_from (fun vs H Q E h => ?_) (fun cdv A outer s H vs Q E hr h => ?_)
  · obtain ⟨rw, n, rfl, _⟩ := h; rfl
  · obtain ⟨rw, n, rfl, hp, hn, q⟩ := h
    refine ⟨_, (pss_cons (ps_for (passes_of rfl) rfl (R71.pi_enumT (by rfl) T.enumerate (pa_cons (pv 0) pa_nil)) (pg_tup rfl (pgs_cons (pg_name (i := 1) sc_image_from.nd rfl (.inl rfl)) (pgs_cons (pg_name (i := 2) sc_image_from.nd rfl (.inl rfl)) pgs_nil)))
    (pss_one (ps_if (PW.pt (pw_or (pt_not (pt_val (pe_callB (r := rIsi K) call_isi (by rfl) T.isinstance (by decide +kernel) (pa_cons (pv 2) (pa_cons (pe_bltn (v := .ty "int") rfl T.int (by decide +kernel) rfl) pa_nil))))) (pw_or (pt_val (pe_callB (r := rIsi K) call_isi (by rfl) T.isinstance (by decide +kernel) (pa_cons (pv 2) (pa_cons (pe_bltn (v := .ty "bool") rfl T.bool (by decide +kernel) rfl) pa_nil)))) (pw_or1 (pt_not (pt_chain op_le op_le pe_int (pv 2) pe_int))))))
    (pss_one (ps_raise rfl (takes_of rfl rfl rfl rfl) (pmk_oex S.o_BadImage S.i_BadImage S.t_BadImage (S.f_BadImage _) (hr.mono (by omega)) S.b_BadImage .nil pass0 (by rfl) T.g_BadImage (pa_cons (pv 1) pa_nil))))
    pss_nil)))
    (pss_cons (ps_set (i := 3) sc_image_from.nd rfl (.inr rfl) (pe_make T.m_Reader G_Reader___init__ (hr.mono (by omega)) (by rfl) T.g_Reader T.b_Reader___init__ .nil pass0 (pa_cons (pv 0) pa_nil)))
    (pss_cons (ps_for (passes_of rfl) rfl (pi_tup (pe_gt rfl T.g_HEAD)) (pg_name (i := 4) sc_image_from.nd rfl (.inl rfl))
    (pss_one (ps_if (pt_cmpR op_ne (R71.pe_methS0 (pv 3) T.c_Reader T.mt_Reader_byte G_Reader_byte (hr.mono (by omega)) T.b_Reader_byte (fun σ => passAt (takes_of rfl rfl rfl rfl) σ)) (pv 4) (nomark _))
    (pss_one (ps_raise rfl (takes_of rfl rfl rfl rfl) (pmk_oex S.o_BadImage S.i_BadImage S.t_BadImage (S.f_BadImage _) (hr.mono (by omega)) S.b_BadImage .nil pass0 (by rfl) T.g_BadImage (pa_cons (pe_op op_sub (pe_fld (pv 3) rfl) pe_int) pa_nil))))
    pss_nil)))
    (pss_cons (ps_set (i := 5) sc_image_from.nd rfl (.inl rfl) (R71.pe_methS0 (pv 3) T.c_Reader T.mt_Reader_number G_Reader_number (hr.mono (by omega)) T.b_Reader_number (fun σ => passAt (takes_of rfl rfl rfl rfl) σ)))
    (pss_cons (ps_set (i := 6) sc_image_from.nd rfl (.inl rfl) (pe_callTy (r := rTupOf K) call_tuple_of (by rfl) T.tuple (by decide +kernel) (pa_cons (R71.pe_lcR (own := [("_", 7)]) (g := gName 7) (tt := tYes) (by rfl) rfl rfl (takes_of rfl rfl rfl rfl) sc_image_from.nd (pi_range1 (by rfl) T.range (pa_cons (R71.pe_methS0 (pv 3) T.c_Reader T.mt_Reader_number G_Reader_number (hr.mono (by omega)) T.b_Reader_number (fun σ => passAt (takes_of rfl rfl rfl rfl) σ)) pa_nil)) (blkOk_by (own := [("_", 7)]) (N := ["row", "at", "byte", "reader", "wanted", "boxes", "functions", "_"]) (sc := defScope s_image_from) (by decide +kernel)) (fun _ _ _ _ _ => (pg_name (i := 7) sc_image_from.nd rfl (.inl rfl))) (fun _ _ _ _ _ => pts_nil) (fun _ _ _ _ _ => (R71.pe_methS0 (pv 3) T.c_Reader T.mt_Reader_function G_Reader_function (hr.mono (by omega)) T.b_Reader_function (fun _ => R71.passF)))) pa_nil)))
    pss_dead))))), ?_⟩
    refine ⟨_, rfl, rw, _, rfl, hp, ?_⟩
    refine for_it (R71.walk_enumT (xs := rowN n)) (fun i σ H' => Same H H' ∧ ∃ x1 x2, σ = [some (.ref rw), x1, x2, none, none, none, none, none]) ⟨Same.refl _, _, _, rfl⟩ (fun i σ H' _ hP => hP.1.sqt hp) (fun i v σ H1 H2 hi hP hy => ?_) (fun σ H' hP => ?_)
    · obtain ⟨s1, x1, x2, rfl⟩ := hP
      obtain ⟨t, x, y, rfl, ht, rfl, hx, hy⟩ := hy
      cases hx
      obtain ⟨z, rfl, hz1, hz2⟩ : ∃ z : Int, y = .int z ∧ 0 ≤ z ∧ z ≤ 255 := by
        by_cases h2 : 2 ≤ i
        · rw [rowN_len] at hi
          have hy : (rowN n)[i]? = some y := hy
          rw [rowN_at h2 hi] at hy; cases hy; exact ⟨5, rfl, by decide, by decide⟩
        · have : i = 0 ∨ i = 1 := by omega
          rcases this with rfl | rfl
          · cases hy; exact ⟨87, rfl, by decide, by decide⟩
          · cases hy; exact ⟨68, rfl, by decide, by decide⟩
      refine ⟨t, _, rfl, sqt_new upd_same, rfl, _, _, rfl, _, _, rfl, rfl, ?_⟩
      refine ⟨_, rfl, _, _, _, _, true, rfl, .ty _, .base (.int z), ki_int (.int z), true, rfl, _, rfl, _, _, _, _, false, rfl, .ty _, .base (.int z), ki_bool (.int z), false, rfl, ?_⟩
      refine ⟨_, rfl, _, _, rfl, rfl, _, rfl, ?_⟩
      rw [decide_eq_true hz1]
      refine iteT ⟨_, _, rfl, rfl, true, ?_, ?_⟩
      · show V.bl (decide (z ≤ 255)) = V.bl true
        rw [decide_eq_true hz2]
      exact iteF ⟨s1.trans (Same.one ht), _, _, rfl⟩
    obtain ⟨s1, x1, x2, rfl⟩ := hP
    refine ⟨_, rfl, fun a dx ha hdx hne => ?_⟩
    refine ⟨a, dx, .ref rw, rfl, upd_same, fun H1 b1 e1 => ⟨rfl, ?_⟩⟩
    have sm : Same H (hid a (upd (upd H' dx (.own a)) a (.ins (He.ga K "Reader") dx []))) := fun b u hb => by
      have hb := s1 _ _ hb
      have h1 : b ≠ a := fun z => by rw [z, ha] at hb; cases hb
      have h2 : b ≠ dx := fun z => by rw [z, hdx] at hb; cases hb
      rw [hid_at h1, upd_ne h1, upd_ne h2]; exact hb
    have r1 : Rdr K (hid a (upd (upd H' dx (.own a)) a (.ins (He.ga K "Reader") dx []))) a dx rw n 0 H1 := ⟨b1.le, by unfold hid; rw [if_pos rfl], e1, sm.sqt hp⟩
    have q' : eBI K (hid a (upd (upd H' dx (.own a)) a (.ins (He.ga K "Reader") dx []))) E := fun H2 d fs s2 hx => q H2 d fs (sm.trans s2) hx
    generalize hid a (upd (upd H' dx (.own a)) a (.ins (He.ga K "Reader") dx [])) = H0 at sm r1 q'
    refine ⟨_, rfl, ⟨_, He.tupB_ok T.tup_HEAD H1⟩, ?_⟩
    refine for_it (walk_tup (xs := [.int 87, .int 68])) (fun i σ H' => Rdr K H0 a dx rw n i H' ∧ i ≤ n + 1 ∧ ∃ y1 y2 x4, σ = [some (.ref rw), y1, y2, some (.ref a), x4, none, none, none]) ⟨r1, by omega, _, _, _, rfl⟩ (fun i σ H' _ hP => He.tupB_ok T.tup_HEAD H') (fun i v σ H2 H3 hi hP hy => ?_) (fun σ H2 hP => ?_)
    · obtain ⟨r2, hle, y1, y2, x4, rfl⟩ := hP
      obtain ⟨rfl, hx⟩ := hy
      have hi2 : i < 2 := hi
      refine ⟨_, rfl, a, dx, _, rfl, r2.at_, rfl, H0, a, dx, rw, n, i, rfl, r2, hn, by omega, fun _ => q', fun hc H4 x h4 hx4 => ?_⟩
      have hxx : x = v ∧ scal x v = true := by
        have : i = 0 ∨ i = 1 := by omega
        rcases this with rfl | rfl
        · cases hx; cases hx4; exact ⟨rfl, rfl⟩
        · cases hx; cases hx4; exact ⟨rfl, rfl⟩
      refine ⟨_, rfl, hxx.2, false, ?_, iteF ⟨h4, hc, _, _, _, rfl⟩⟩
      rw [decide_eq_true hxx.1]; rfl
    obtain ⟨r2, hle, y1, y2, x4, rfl⟩ := hP
    have r2 : Rdr K H0 a dx rw n 2 H2 := r2
    have hle : 2 ≤ n + 1 := hle
    refine ⟨_, rfl, a, dx, _, rfl, r2.at_, rfl, H0, a, dx, rw, n, 2, rfl, r2, hn, by decide, by decide, fun _ => q', fun hc H3 h3 => ?_⟩
    refine ⟨_, rfl, a, dx, _, rfl, h3.at_, rfl, H0, a, dx, rw, n, 3, rfl, h3, hn, by decide, by decide, fun _ => q', fun hc2 H4 h4 => ?_⟩
    refine ⟨5, rfl, by decide, by decide, fun D hD => ?_⟩
    exact lc_range (lo := 0) (n := 5) (fun j H' => j = 0 ∧ Rdr K H0 a dx rw n 4 H') ⟨rfl, h4.same (Same.one hD)⟩ (fun j H' hj hP => ⟨rfl, _, rfl, a, dx, _, rfl, hP.2.at_, rfl, H0, a, dx, rw, n, 4, rfl, hP.2, hn, by decide, by decide, q'⟩) (fun H' hP => absurd hP.1 (by decide))
end
end K71

set_option Elab.async false
set_option linter.all false
set_option maxRecDepth 100000
set_option maxHeartbeats 4000000
namespace K71
open PySem PySem.Spec PyProof.Rows L2
def linesN (n : Nat) : List V := .str "image 4 0" :: List.replicate (n + 1) (.str "x")
theorem linesN_len (n : Nat) : (linesN n).length = n + 2 := by simp [linesN]
def spNf : Sp := fun vs H Q _ => ∃ (z : Str) (k : Int), vs = [.str z, .int k] ∧ ((z = "4" ∧ ∀ H', Same H H' → Q (.int 4) H') ∨ (z = "0" ∧ ∀ H', Same H H' → Q (.int 0) H'))
def spGi (K : PySem.W.Frag) : Sp := fun vs H Q _ => ∃ (a dx : Addr) (v : V), vs = [.ref a, v] ∧ H a = some (.ins (He.ga K "Lines") dx []) ∧ ∀ H', But a H H' → H' a = some (.ins (He.ga K "Lines") dx [("lines", v), ("at", .int 0)]) → Q .non H'
def spWd (K : PySem.W.Frag) : Sp := fun vs H Q _ => ∃ (a dx ll : Addr) (n : Nat), vs = [.ref a, .str "image", .int 3] ∧ H a = some (.ins (He.ga K "Lines") dx [("lines", .ref ll), ("at", .int 0)]) ∧ SqL K (hid a H) ll (linesN n) ∧
  ∀ H' l, But a H H' → H' a = some (.ins (He.ga K "Lines") dx [("lines", .ref ll), ("at", .int 1)]) → H' l = some (.lst [.str "image", .str "4", .str "0"]) → Q (.ref l) H'
def spIl (K : PySem.W.Frag) : Sp := fun vs H Q E => ∃ (ll : Addr) (n : Nat), vs = [.ref ll] ∧ SqL K H ll (linesN n) ∧ n ≤ 8 ∧ ∀ H' d, Same H H' → H' d = some (.xd [("line", .int 1)]) → E (.ref (He.ga K "BadLine")) (some d) H'
section
variable {P : Program} {w : World} {K : PySem.W.Frag} {mg : Str → Option Value} {base : Heap} (T : Txt K mg) (S : Ext P w K mg)
include T
theorem ok_Gi : FnOk P w K mg base CX0 1 (He.ma K (He.ga K "Lines") "__init__") T.d_Lines___init__ ["self", "lines"] (spGi K) := by
  refine T.F_Lines___init__.ok sc_Lines___init__ (fun vs H Q E h => ?_) (fun cdv A outer s H vs Q E hr h => ?_)
  · obtain ⟨a, dx, t, rfl, _⟩ := h; rfl
  · obtain ⟨a, dx, t, rfl, ha, q⟩ := h
    refine ⟨_, PSs.nox (pss_cons (ps_fld (pv 0) (pv 1) rfl)
    (pss_one (ps_fld (pv 0) pe_int rfl))), ?_⟩
    refine ⟨_, rfl, _, rfl, a, _, dx, _, rfl, ha, T.c_Lines, T.n_Lines_lines, by decide, ?_⟩
    refine ⟨_, rfl, a, _, dx, _, rfl, upd_same, T.c_Lines, T.n_Lines_at, (by show (1 : Nat) < 1000; decide), ?_⟩
    exact q _ (But.set.trans But.set) upd_same
theorem ok_nf : FnOk P w K mg base CX0 1 (He.ga K "number_from") T.d_number_from ["text", "line"] spNf := by
  refine T.F_number_from.ok sc_number_from (fun vs H Q E h => ?_) (fun cdv A outer s H vs Q E hr h => ?_)
  · obtain ⟨z, k, rfl, _⟩ := h; rfl
  · obtain ⟨z, k, rfl, q⟩ := h
    refine ⟨_, PSs.nox (pss_cons (ps_if (PW.pt (pw_or (pt_not (pt_chain op_le op_le pe_int (pe_callB call_len_str (by rfl) T.len (by decide +kernel) (pa_cons (pv 0) pa_nil)) pe_int)) (pw_or (pt_not (pt_val (pe_callB (r := rAll K) (cr_all rfl) (by rfl) T.all (by decide +kernel) (pa_cons (pe_lc (own := [("digit", 2)]) (g := gName 2) (tt := tYes) (by rfl) sc_number_from.nd (pi_str (pv 0)) (blkOk_by (own := [("digit", 2)]) (N := ["text", "line", "digit"]) (sc := defScope s_number_from) (by decide +kernel)) (fun _ _ _ _ _ => (pg_name (i := 2) sc_number_from.nd rfl (.inl rfl))) (fun _ _ _ _ _ => pts_nil) (fun _ _ _ _ _ => (pe_cmpR op_in_str (pv 2) (pe_gs rfl T.DIGITS) (by rfl)))) pa_nil)))) (pw_or1 (PW.pt (pw_and (pt_cmpR op_eq (pe_ix (r := rIxS) ix_str (pv 0) pe_int (fun _ _ => rfl)) pe_str (nomark _)) (pw_and1 (pt_cmpR op_gt (pe_callB call_len_str (by rfl) T.len (by decide +kernel) (pa_cons (pv 0) pa_nil)) pe_int (nomark _)))))))))
    (pss_one ps_dead)
    pss_nil)
    (pss_one (ps_ret (pe_callTy call_int_str (by rfl) T.int (by decide +kernel) (pa_cons (pv 0) pa_nil))))), ?_⟩
    obtain ⟨c, v, hz, hc, hi, hcs, qq⟩ : ∃ (c : Nat) (v : Int), z.length = 1 ∧ z.cps[0]? = some c ∧ intText? z = some v ∧ (!(Builtin.Str.occurrences "0123456789" ⟨#[c]⟩ 0 ("0123456789" : Str).length 1).isEmpty) = true ∧ ∀ H', Same H H' → Q (.int v) H' := by
      rcases q with ⟨rfl, q⟩ | ⟨rfl, q⟩
      · exact ⟨52, 4, by decide +kernel, by decide +kernel, by decide +kernel, by decide +kernel, q⟩
      · exact ⟨48, 0, by decide +kernel, by decide +kernel, by decide +kernel, by decide +kernel, q⟩
    have hsz : z.cps.size = 1 := hz
    have hl : z.cps.toList = [c] := by
      have h1 : z.cps.toList.length = 1 := by simpa using hsz
      obtain ⟨d, hd⟩ := List.length_eq_one_iff.mp h1
      have : z.cps.toList[0]? = some c := by rw [Array.getElem?_toList]; exact hc
      rw [hd] at this
      rw [hd]; cases this; rfl
    have hle : z.length ≤ sizeLine := by rw [hz]; decide
    refine ⟨_, rfl, _, rfl, hle, _, _, rfl, rfl, _, rfl, ?_⟩
    rw [hz]
    refine iteT ⟨_, _, rfl, rfl, true, rfl, ?_⟩
    refine ⟨_, rfl, _, rfl, fun D hD => ?_⟩
    refine lc_it walk_str (LcS H D fun _ => [.bl true]) (LcS.zero hD fun _ => by simp) (fun _ _ _ _ => trivial) (fun i x H3 H4 hi hP hy => ?_) (fun H3 hP => ?_)
    · obtain ⟨rfl, e, he, rfl⟩ := hy
      have hi0 : i = 0 := by omega
      subst hi0
      rw [hc] at he; cases he
      refine ⟨rfl, _, rfl, _, _, rfl, rfl, ?_⟩
      rw [hcs]
      exact hP.yes hD (Same.refl _) rfl (by decide)
    · have e := hP.2.1
      rw [hsz] at e
      refine ⟨D, [true], rfl, .inl (.inl e), true, rfl, ?_⟩
      refine ⟨_, rfl, z, 0, c, rfl, rfl, hle, (by rw [hl]; exact atI_nat (j := 0) rfl), rfl, decide (V.str ⟨#[c]⟩ = V.str "0"), rfl, ?_⟩
      have tl : ((z.length : Nat) : Int) = 1 := by rw [hz]; rfl
      refine ite2 (fun h1 => ?_) (fun h1 => ?_)
      · refine ⟨_, rfl, _, rfl, hle, _, _, rfl, rfl, false, ?_, iteF ⟨_, rfl, _, _, rfl, hi, by rw [hz]; decide, qq _ hP.1⟩⟩
        rw [tl]; rfl
      · exact iteF ⟨_, rfl, _, _, rfl, hi, by rw [hz]; decide, qq _ hP.1⟩
theorem ok_words : FnOk P w K mg base CX0 1 (He.ma K (He.ga K "Lines") "words") T.d_Lines_words ["self", "first", "size"] (spWd K) := by
  refine T.F_Lines_words.ok sc_Lines_words (fun vs H Q E h => ?_) (fun cdv A outer s H vs Q E hr h => ?_)
  · obtain ⟨a, dx, ll, n, rfl, _⟩ := h; rfl
  · obtain ⟨a, dx, ll, n, rfl, ha, hl, q⟩ := h
    refine ⟨_, PSs.nox (pss_cons (ps_if (pt_cmpR op_ge (pe_fld (pv 0) rfl) (pe_callB (r := rLenS K) call_len_seq (by rfl) T.len (by decide +kernel) (pa_cons (pe_fld (pv 0) rfl) pa_nil)) (nomark _))
    (pss_one ps_dead)
    pss_nil)
    (pss_cons (ps_set (i := 3) sc_Lines_words.nd rfl (.inl rfl) (pe_split (pe_ix (r := rIxL K) ix_list (pe_fld (pv 0) rfl) (pe_fld (pv 0) rfl) (fun _ _ => rfl)) pe_str))
    (pss_cons (ps_if (PW.pt (pw_or (PW.pt (pw_and (pt_cmpR op_notN (pv 1) pe_non (nomark _)) (pw_and1 (pt_cmpR op_ne (pe_ix (r := rIxL K) ix_list (pv 3) pe_int (fun _ _ => rfl)) (pv 1) (nomark _))))) (pw_or1 (PW.pt (pw_and (pt_cmpR op_notN (pv 2) pe_non (nomark _)) (pw_and1 (pt_cmpR op_ne (pe_callB (r := rLenS K) call_len_seq (by rfl) T.len (by decide +kernel) (pa_cons (pv 3) pa_nil)) (pv 2) (nomark _))))))))
    (pss_one ps_dead)
    pss_nil)
    (pss_cons (ps_fldaug (pv 0) pe_int in_add)
    (pss_one (ps_ret (pv 3))))))), ?_⟩
    have hl0 : SqL K H ll (linesN n) := (hid_le a H).seq hl
    refine ⟨_, rfl, a, _, dx, _, .int 0, rfl, ha, T.c_Lines, T.n_Lines_at, rfl, _, rfl, a, _, dx, _, .ref ll, rfl, ha, T.c_Lines, T.n_Lines_lines, rfl, ll, _, rfl, .inl hl0, _, _, rfl, rfl, false, ?_, iteF ?_⟩
    · show V.bl (decide (((linesN n).length : Nat) ≤ (0 : Int))) = V.bl false
      rw [linesN_len, decide_eq_false (by omega)]
    have hsp : Txt.split "image 4 0" " " = (["image", "4", "0"] : List Str) := by decide +kernel
    refine ⟨_, rfl, a, _, dx, _, .ref ll, rfl, ha, T.c_Lines, T.n_Lines_lines, rfl, _, rfl, a, _, dx, _, .int 0, rfl, ha, T.c_Lines, T.n_Lines_at, rfl, ll, _, 0, .str "image 4 0", rfl, rfl, hl0, atI_nat (j := 0) rfl, ⟨_, rfl⟩, _, _, rfl, rfl, (by decide +kernel), (by decide +kernel), fun p hp => ?_⟩
    rw [hsp]
    have pa : p ≠ a := fun z => by rw [z, ha] at hp; cases hp
    refine ⟨_, rfl, rfl, true, rfl, iteT ⟨_, rfl, p, _, 0, .str "image", rfl, rfl, sql_new upd_same, atI_nat (j := 0) rfl, _, rfl, rfl, false, rfl, ?_⟩⟩
    refine ⟨_, rfl, rfl, true, rfl, iteT ⟨_, rfl, p, _, rfl, .inl (sql_new upd_same), _, rfl, rfl, false, rfl, iteF ?_⟩⟩
    refine ⟨_, rfl, a, _, dx, _, _, rfl, (by rw [upd_ne pa.symm]; exact ha), T.c_Lines, T.n_Lines_at, rfl, _, _, rfl, rfl, dx, _, (by rw [upd_ne pa.symm]; exact ha), (by show (2 : Nat) < 1000; decide), ?_⟩
    exact ⟨_, rfl, q _ p (((Same.one hp).but a).trans But.set) upd_same (by rw [upd_ne pa]; exact upd_same)⟩
include S
theorem ok_il : FnOk P w K mg base (L2.CX P w) 9 (He.ga K "image_from_lines") T.d_image_from_lines ["lines"] (spIl K) := by
  have G_Lines_words := ok_words (P := P) (w := w) (base := base) T
  have G_number_from := ok_nf (P := P) (w := w) (base := base) T
  have G_Lines___init__ := ok_Gi (P := P) (w := w) (base := base) T
  refine T.F_image_from_lines.ok sc_image_from_lines (fun vs H Q E h => ?_) (fun cdv A outer s H vs Q E hr h => ?_)
  · obtain ⟨ll, n, rfl, _⟩ := h; rfl
  · obtain ⟨ll, n, rfl, hl, hn, q⟩ := h
    refine ⟨_, (pss_cons (ps_set (i := 1) sc_image_from_lines.nd rfl (.inr rfl) (pe_make T.m_Lines G_Lines___init__ (hr.mono (by omega)) (by rfl) T.g_Lines T.b_Lines___init__ .nil pass0 (pa_cons (pv 0) pa_nil)))
    (pss_cons (ps_set (i := 2) sc_image_from_lines.nd rfl (.inl rfl) (pe_meth (pv 1) T.c_Lines T.mt_Lines_words G_Lines_words (hr.mono (by omega)) T.b_Lines_words .nil pass0 (pa_cons pe_str (pa_cons pe_int pa_nil))))
    (pss_cons (ps_par (i := 3) (j := 4) (by rfl) sc_image_from_lines.nd rfl rfl (by decide) rfl rfl (pa_cons (pe_call G_number_from (hr.mono (by omega)) (by rfl) T.g_number_from T.F_number_from.kp T.b_number_from .nil pass0 (pa_cons (pe_ix (r := rIxL K) ix_list (pv 2) pe_int (fun _ _ => rfl)) (pa_cons pe_int pa_nil))) (pa_cons (pe_call G_number_from (hr.mono (by omega)) (by rfl) T.g_number_from T.F_number_from.kp T.b_number_from .nil pass0 (pa_cons (pe_ix (r := rIxL K) ix_list (pv 2) pe_int (fun _ _ => rfl)) (pa_cons pe_int pa_nil))) pa_nil)) (by rfl))
    (pss_cons (ps_set (i := 5) sc_image_from_lines.nd rfl (.inl rfl) (pe_callTy (r := rTupOf K) call_tuple_of (by rfl) T.tuple (by decide +kernel) (pa_cons (pe_lc (own := [("_", 6)]) (g := gName 6) (tt := tYes) (by rfl) sc_image_from_lines.nd (pi_range1 (by rfl) T.range (pa_cons (pv 4) pa_nil)) (blkOk_by (own := [("_", 6)]) (N := ["lines", "reader", "words", "boxes", "many", "functions", "_"]) (sc := defScope s_image_from_lines) (by decide +kernel)) (fun _ _ _ _ _ => (pg_name (i := 6) sc_image_from_lines.nd rfl (.inl rfl))) (fun _ _ _ _ _ => pts_nil) (fun _ _ _ _ _ => pe_dead)) pa_nil)))
    (pss_cons (ps_if (pt_cmpR op_ne (pe_fld (pv 1) rfl) (pe_callB (r := rLenS K) call_len_seq (by rfl) T.len (by decide +kernel) (pa_cons (pv 0) pa_nil)) (nomark _))
    (pss_one (ps_raise rfl (takes_of rfl rfl rfl rfl) (pmk_oex S.o_BadLine S.i_BadLine S.t_BadLine (S.f_BadLine _) (hr.mono (by omega)) S.b_BadLine .nil pass0 (by rfl) T.g_BadLine (pa_cons (pe_fld (pv 1) rfl) pa_nil))))
    pss_nil)
    pss_dead))))), ?_⟩
    refine ⟨_, rfl, fun a dx ha hdx hne => ?_⟩
    refine ⟨a, dx, .ref ll, rfl, upd_same, fun H1 b1 e1 => ⟨rfl, ?_⟩⟩
    have sm : Same H (hid a (upd (upd H dx (.own a)) a (.ins (He.ga K "Lines") dx []))) := fun b u hb => by
      have h1 : b ≠ a := fun z => by rw [z, ha] at hb; cases hb
      have h2 : b ≠ dx := fun z => by rw [z, hdx] at hb; cases hb
      rw [hid_at h1, upd_ne h1, upd_ne h2]; exact hb
    have s1 : Same H (hid a H1) := sm.trans b1
    refine ⟨_, rfl, a, dx, _, rfl, e1, rfl, a, dx, ll, n, rfl, e1, s1.seq hl, fun H2 l b2 e2 hl2 => ?_⟩
    have s2 : Same H (hid a H2) := s1.trans b2
    have la : l ≠ a := fun z => by rw [z, e2] at hl2; cases hl2
    refine ⟨_, rfl, l, _, 1, .str "4", rfl, rfl, sql_new hl2, rfl, "4", 0, rfl, .inl ⟨rfl, fun H3 s3 => ?_⟩⟩
    refine ⟨_, rfl, l, _, 2, .str "0", rfl, rfl, sql_new (s3 _ _ hl2), rfl, "0", 0, rfl, .inr ⟨rfl, fun H4 s4 => ⟨_, _, rfl, ?_⟩⟩⟩
    refine ⟨_, rfl, 0, rfl, by decide, by decide, fun D hD => ⟨fun i _ H' => H' = upd H4 D (.lst []), ⟨0, rfl⟩, fun i m H' hP => .inl ⟨Nat.zero_le _, ?_⟩⟩⟩
    subst hP
    refine ⟨D, [], rfl, .inl ⟨sql_new upd_same, fun k hk => ?_⟩⟩
    have s5 := ((s3.trans s4).trans (Same.one (o := .lst []) hD)).trans (Same.one (o := .tup []) hk)
    have e5 := s5 _ _ e2
    have s6 : Same H _ := (s2.trans (hid_le a H2)).trans s5
    generalize upd (upd H4 D (.lst [])) k (.tup []) = H6 at s5 e5 s6
    refine ⟨_, rfl, a, _, dx, _, .int 1, rfl, e5, T.c_Lines, T.n_Lines_at, rfl, _, rfl, ll, _, rfl, .inl (s6.seq hl), rfl, true, ?_, iteT ?_⟩
    · have : V.int 1 ≠ V.int ((linesN n).length : Nat) := fun z => by
        have := V.int.inj z
        rw [linesN_len] at this; omega
      rw [decide_eq_false this]; rfl
    · exact ⟨_, rfl, a, _, dx, _, .int 1, rfl, e5, T.c_Lines, T.n_Lines_at, rfl, (by show 1 ≤ 1000; decide), fun e he => mk_exc ⟨1, rfl, by decide⟩ he fun H' d s hx => q H' d (s6.trans s) hx⟩
end
end K71

set_option Elab.async false
set_option linter.all false
set_option maxRecDepth 100000
set_option maxHeartbeats 4000000
namespace K71
open PySem PySem.Spec PyProof.Rows L2
def codeN (n : Nat) (tk gv : Addr) : List V := List.replicate n (.ref tk) ++ [.ref gv]
theorem codeN_len (n : Nat) (tk gv : Addr) : (codeN n tk gv).length = n + 1 := by simp [codeN]
theorem codeN_lt {n i : Nat} {tk gv : Addr} (h : i < n) : (codeN n tk gv)[i]? = some (.ref tk) := by
  unfold codeN
  rw [List.getElem?_append_left (by simpa using h), List.getElem?_replicate, if_pos h]
theorem codeN_n {n : Nat} {tk gv : Addr} : (codeN n tk gv)[n]? = some (.ref gv) := by
  unfold codeN
  rw [List.getElem?_append_right (by simp)]; simp
/-- what a judge reads: the image's parts -/
structure Img (K : PySem.W.Frag) (H0 : Hp) (fs f cd tk gv : Addr) (n : Nat) : Prop where
  fs_ : SqT K H0 fs [.ref f]
  f_ : ∃ pl, SqT K H0 f [.str "a.f", .int 0, .int 0, .int 0, .ref cd, pl]
  cd_ : SqT K H0 cd (codeN n tk gv)
  tk_ : SqT K H0 tk [.str "tick"]
  gv_ : SqT K H0 gv [.str "give", .int 0]
  le : n ≤ 8
theorem Img.same {K : PySem.W.Frag} {H0 H1 : Hp} {fs f cd tk gv : Addr} {n : Nat} (h : Img K H0 fs f cd tk gv n) (s : Same H0 H1) : Img K H1 fs f cd tk gv n := ⟨s.sqt h.fs_, let ⟨p, x⟩ := h.f_; ⟨p, s.sqt x⟩, s.sqt h.cd_, s.sqt h.tk_, s.sqt h.gv_, h.le⟩
theorem Img.ins {K : PySem.W.Frag} {H : Hp} {fs f cd tk gv : Addr} {n i : Nat} (h : Img K H fs f cd tk gv n) (hi : i ≤ n) : ∃ (p : Addr) (k : Str) (r : List V), (codeN n tk gv)[i]? = some (.ref p) ∧ SqT K H p (.str k :: r) ∧ ((k = "tick" ∧ r = []) ∨ (k = "give" ∧ r = [.int 0])) := by
  by_cases h1 : i < n
  · exact ⟨tk, "tick", [], codeN_lt h1, h.tk_, .inl ⟨rfl, rfl⟩⟩
  · obtain rfl : i = n := by omega
    exact ⟨gv, "give", [.int 0], codeN_n, h.gv_, .inr ⟨rfl, rfl⟩⟩
theorem Img.ins2 {K : PySem.W.Frag} {H : Hp} {fs f cd tk gv : Addr} {n i : Nat} (h : Img K H fs f cd tk gv n) (hi : i ≤ n) : ∃ (p : Addr) (k : Str) (r : List V), (codeN n tk gv)[i]? = some (.ref p) ∧ SqT K H p (.str k :: r) ∧ ((k = "tick" ∧ r = [] ∧ i < n) ∨ (k = "give" ∧ r = [.int 0] ∧ i = n)) := by
  by_cases h1 : i < n
  · exact ⟨tk, "tick", [], codeN_lt h1, h.tk_, .inl ⟨rfl, rfl, h1⟩⟩
  · obtain rfl : i = n := by omega
    exact ⟨gv, "give", [.int 0], codeN_n, h.gv_, .inr ⟨rfl, rfl, rfl⟩⟩
abbrev dSt : PyData := .tuple [.tuple [], .tuple [], .int 0, .bool false, .int (-1)]
theorem dst {K : PySem.W.Frag} {H : Hp} {st : Addr} (h : Dp K H (.ref st) dSt) : ∃ b s, SqT K H st [.ref b, .ref s, .int 0, .bl false, .int (-1)] ∧ SqT K H b [] ∧ SqT K H s [] := by
  obtain ⟨p, xs, e, hp, ha⟩ := dtup h
  cases e
  obtain ⟨x1, _, rfl, h1, ha⟩ := dpa_cons ha
  obtain ⟨x2, _, rfl, h2, ha⟩ := dpa_cons ha
  obtain ⟨x3, _, rfl, h3, ha⟩ := dpa_cons ha
  obtain ⟨x4, _, rfl, h4, ha⟩ := dpa_cons ha
  obtain ⟨x5, _, rfl, h5, ha⟩ := dpa_cons ha
  obtain rfl := dpa_nil ha
  obtain ⟨p1, _, rfl, g1, a1⟩ := dtup h1
  obtain rfl := dpa_nil a1
  obtain ⟨p2, _, rfl, g2, a2⟩ := dtup h2
  obtain rfl := dpa_nil a2
  obtain rfl := dp_int h3
  obtain rfl := dp_int h5
  cases h4
  exact ⟨p1, p2, hp, g1, g2⟩
abbrev jFs (fs f cd ls lw : Addr) : List (Str × V) := [("boxes", .int 4), ("functions", .ref fs), ("number", .int 0), ("function", .ref f), ("code", .ref cd), ("sure", .ref ls), ("waiting", .ref lw)]
structure Jd (K : PySem.W.Frag) (H0 : Hp) (a dx fs f cd tk gv ls lw : Addr) (n : Nat) (H : Hp) : Prop where
  s : Same H0 H
  im : Img K H0 fs f cd tk gv n
  na : H0 a = none
  ns : H0 ls = none
  nw : H0 lw = none
  ne : ls ≠ lw
  at_ : H a = some (.ins (He.ga K "Judge") dx (jFs fs f cd ls lw))
theorem Jd.same {K : PySem.W.Frag} {H0 H H' : Hp} {a dx fs f cd tk gv ls lw : Addr} {n : Nat} (h : Jd K H0 a dx fs f cd tk gv ls lw n H) (s : Same H H') : Jd K H0 a dx fs f cd tk gv ls lw n H' := ⟨h.s.trans s, h.im, h.na, h.ns, h.nw, h.ne, s _ _ h.at_⟩
theorem Jd.i {K : PySem.W.Frag} {H0 H : Hp} {a dx fs f cd tk gv ls lw : Addr} {n : Nat} (h : Jd K H0 a dx fs f cd tk gv ls lw n H) : Img K H fs f cd tk gv n := h.im.same h.s
def eRf (K : PySem.W.Frag) (H0 : Hp) (k : Str) (i : Int) (E : XK) : Prop := ∀ H' d, Same H0 H' → H' d = some (.xd [("at", .int i), ("function", .int 0), ("kind", .str k)]) → E (.ref (He.ga K "Refused")) (some d) H'
def spJi (K : PySem.W.Frag) : Sp := fun vs H Q _ => ∃ (a dx p fs f cd tk gv : Addr) (n : Nat), vs = [.ref a, .ref p, .int 0] ∧ H a = some (.ins (He.ga K "Judge") dx []) ∧ SqT K (hid a H) p [.int 4, .ref fs] ∧ Img K (hid a H) fs f cd tk gv n ∧
  ∀ H' ls lw, Jd K (hid a H) a dx fs f cd tk gv ls lw n H' → H' ls = some (.lst (List.replicate (n + 1) .non)) → H' lw = some (.lst []) → Q .non H'
def spRf (K : PySem.W.Frag) : Sp := fun vs H Q E => ∃ (H0 : Hp) (a dx fs f cd tk gv ls lw : Addr) (n : Nat) (k : Str) (i : Int), vs = [.ref a, .str k, .int i] ∧ Jd K H0 a dx fs f cd tk gv ls lw n H ∧ k.length ≤ 100 ∧ i.natAbs < 10000000 ∧ eRf K H k i E
def spSh (K : PySem.W.Frag) : Sp := fun vs H Q _ => ∃ (H0 : Hp) (a dx fs f cd tk gv ls lw : Addr) (n i : Nat), vs = [.ref a, .int i] ∧ Jd K H0 a dx fs f cd tk gv ls lw n H ∧ i ≤ n ∧ ∀ H', Same H H' → Q .non H'
section
variable {P : Program} {w : World} {K : PySem.W.Frag} {mg : Str → Option Value} {base : Heap} (T : Txt K mg) (S : Ext P w K mg)
include T
theorem ok_Ji : FnOk P w K mg base CX0 1 (He.ma K (He.ga K "Judge") "__init__") T.d_Judge___init__ ["self", "image", "number"] (spJi K) := by
  refine T.F_Judge___init__.ok sc_Judge___init__ (fun vs H Q E h => ?_) (fun cdv A outer s H vs Q E hr h => ?_)
  · obtain ⟨a, dx, p, fs, f, cd, tk, gv, n, rfl, _⟩ := h; rfl
  · obtain ⟨a, dx, p, fs, f, cd, tk, gv, n, rfl, ha, hp, im, q⟩ := h
    refine ⟨_, PSs.nox (pss_cons (ps_fld (pv 0) (pe_ix (r := rIxT K) ix_tup (pv 1) pe_int (fun _ _ => rfl)) rfl)
    (pss_cons (ps_fld (pv 0) (pe_ix (r := rIxT K) ix_tup (pv 1) pe_int (fun _ _ => rfl)) rfl)
    (pss_cons (ps_fld (pv 0) (pv 2) rfl)
    (pss_cons (ps_fld (pv 0) (pe_ix (r := rIxT K) ix_tup (pe_ix (r := rIxT K) ix_tup (pv 1) pe_int (fun _ _ => rfl)) (pv 2) (fun _ _ => rfl)) rfl)
    (pss_cons (ps_fld (pv 0) (pe_ix (r := rIxT K) ix_tup (pe_ix (r := rIxT K) ix_tup (pe_ix (r := rIxT K) ix_tup (pv 1) pe_int (fun _ _ => rfl)) (pv 2) (fun _ _ => rfl)) pe_int (fun _ _ => rfl)) rfl)
    (pss_cons (ps_fld (pv 0) (pe_op op_rep (pe_lst (pa_cons pe_non pa_nil)) (pe_callB (r := rLenS K) call_len_seq (by rfl) T.len (by decide +kernel) (pa_cons (pe_fld (pv 0) rfl) pa_nil))) rfl)
    (pss_one (ps_fld (pv 0) (pe_lst pa_nil) rfl)))))))), ?_⟩
    have sq : ∀ {H' : Hp} {x : Addr} {xs : List V}, But a H H' → SqT K (hid a H) x xs → SqT K H' x xs := fun {H' x xs} b h => b.le.sqt h
    obtain ⟨pl, hf⟩ := im.f_
    refine ⟨_, rfl, p, _, 0, .int 4, rfl, rfl, sq (But.refl _ _) hp, rfl, _, rfl, a, _, dx, _, rfl, ha, T.c_Judge, T.n_Judge_boxes, (by show (0 : Nat) < 1000; decide), ?_⟩
    have b1 : But a H (upd H a (.ins (He.ga K "Judge") dx (putF "boxes" (.int 4) []))) := But.set
    refine ⟨_, rfl, p, _, 1, .ref fs, rfl, rfl, sq b1 hp, rfl, _, rfl, a, _, dx, _, rfl, upd_same, T.c_Judge, T.n_Judge_functions, (by show (1 : Nat) < 1000; decide), ?_⟩
    have b2 := b1.trans (But.set (o := .ins (He.ga K "Judge") dx (putF "functions" (.ref fs) (putF "boxes" (.int 4) []))))
    refine ⟨_, rfl, _, rfl, a, _, dx, _, rfl, upd_same, T.c_Judge, T.n_Judge_number, (by show (2 : Nat) < 1000; decide), ?_⟩
    have b3 := b2.trans (But.set (o := .ins (He.ga K "Judge") dx (putF "number" (.int 0) (putF "functions" (.ref fs) (putF "boxes" (.int 4) [])))))
    refine ⟨_, rfl, p, _, 1, .ref fs, rfl, rfl, sq b3 hp, rfl, _, rfl, fs, _, 0, .ref f, rfl, rfl, sq b3 im.fs_, rfl, _, rfl, a, _, dx, _, rfl, upd_same, T.c_Judge, T.n_Judge_function, (by show (3 : Nat) < 1000; decide), ?_⟩
    have b4 := b3.trans (But.set (o := .ins (He.ga K "Judge") dx (putF "function" (.ref f) (putF "number" (.int 0) (putF "functions" (.ref fs) (putF "boxes" (.int 4) []))))))
    refine ⟨_, rfl, p, _, 1, .ref fs, rfl, rfl, sq b4 hp, rfl, _, rfl, fs, _, 0, .ref f, rfl, rfl, sq b4 im.fs_, rfl, f, _, 4, .ref cd, rfl, rfl, sq b4 hf, atI_nat (j := 4) rfl, _, rfl, a, _, dx, _, rfl, upd_same, T.c_Judge, T.n_Judge_code, (by show (4 : Nat) < 1000; decide), ?_⟩
    have b5 := b4.trans (But.set (o := .ins (He.ga K "Judge") dx (putF "code" (.ref cd) (putF "function" (.ref f) (putF "number" (.int 0) (putF "functions" (.ref fs) (putF "boxes" (.int 4) [])))))))
    generalize hH5 : upd _ a (.ins (He.ga K "Judge") dx (putF "code" (.ref cd) (putF "function" (.ref f) (putF "number" (.int 0) (putF "functions" (.ref fs) (putF "boxes" (.int 4) [])))))) = H5 at b5
    have e5 : H5 a = some (.ins (He.ga K "Judge") dx [("boxes", .int 4), ("functions", .ref fs), ("number", .int 0), ("function", .ref f), ("code", .ref cd)]) := by rw [← hH5]; exact upd_same
    have hlc := codeN_len n tk gv
    have hn8 := im.le
    have no : ∀ {H' : Hp} {b : Addr}, But a H H' → H' b = none → hid a H b = none := fun {H' b} bb hb => by
      cases qq : hid a H b with
      | none => rfl
      | some u =>
        have := bb.le _ _ qq
        rw [hb] at this; cases this
    refine ⟨(by show 1 ≤ sizeLine; decide), fun l1 hl1 => ?_⟩
    have l1a : l1 ≠ a := fun z => by rw [z, e5] at hl1; cases hl1
    have s1 := Same.one (o := .lst [V.non]) hl1
    have b6 := b5.trans (s1.but a)
    refine ⟨_, rfl, a, _, dx, _, .ref cd, rfl, s1 _ _ e5, T.c_Judge, T.n_Judge_code, rfl, cd, _, rfl, .inr (sq b6 im.cd_), l1, _, _, rfl, rfl, upd_same, by omega, by omega, ?_, fun l2 hl2 => ?_⟩
    · rw [hlc]; show 1 * ((n + 1 : Nat) : Int).toNat ≤ sizeLine
      exact Nat.le_trans (by omega : 1 * ((n + 1 : Nat) : Int).toNat ≤ 9) (by decide)
    have l2a : l2 ≠ a := fun z => by rw [z, s1 _ _ e5] at hl2; cases hl2
    have efl : (List.replicate (((codeN n tk gv).length : Nat) : Int).toNat [V.non]).flatten = List.replicate (n + 1) V.non := by
      rw [hlc]; simp
    rw [efl]
    have n2 := no b6 hl2
    have s2 := Same.one (o := .lst (List.replicate (n + 1) V.non)) hl2
    have b7 := b6.trans (s2.but a)
    have e7 := s2 _ _ (s1 _ _ e5)
    refine ⟨_, rfl, a, _, dx, _, rfl, e7, T.c_Judge, T.n_Judge_sure, (by show (5 : Nat) < 1000; decide), ?_⟩
    have b8 := b7.trans (But.set (o := .ins (He.ga K "Judge") dx (putF "sure" (.ref l2) [("boxes", .int 4), ("functions", .ref fs), ("number", .int 0), ("function", .ref f), ("code", .ref cd)])))
    have e8 : (upd (upd (upd H5 l1 (.lst [V.non])) l2 (.lst (List.replicate (n + 1) V.non))) a (.ins (He.ga K "Judge") dx (putF "sure" (.ref l2) [("boxes", .int 4), ("functions", .ref fs), ("number", .int 0), ("function", .ref f), ("code", .ref cd)]))) l2 = some (.lst (List.replicate (n + 1) V.non)) := by rw [upd_ne l2a]; exact upd_same
    refine ⟨(by decide), fun l3 hl3 => ?_⟩
    have l3a : l3 ≠ a := fun z => by rw [z, upd_same] at hl3; cases hl3
    have l32 : l3 ≠ l2 := fun z => by rw [z, e8] at hl3; cases hl3
    have n3 := no b8 hl3
    have s3 := Same.one (o := .lst []) hl3
    have b9 := b8.trans (s3.but a)
    refine ⟨_, rfl, a, _, dx, _, rfl, s3 _ _ upd_same, T.c_Judge, T.n_Judge_waiting, (by show (6 : Nat) < 1000; decide), ?_⟩
    have b10 := b9.trans (But.set (o := .ins (He.ga K "Judge") dx (putF "waiting" (.ref l3) (putF "sure" (.ref l2) [("boxes", .int 4), ("functions", .ref fs), ("number", .int 0), ("function", .ref f), ("code", .ref cd)]))))
    exact q _ l2 l3 ⟨b10.le, im, by unfold hid; rw [if_pos rfl], n2, n3, l32.symm, upd_same⟩ (by rw [upd_ne l2a]; exact s3 _ _ e8) (by rw [upd_ne l3a]; exact upd_same)
theorem ok_Js : FnOk P w K mg base CX0 1 (He.ma K (He.ga K "Judge") "shapes") T.d_Judge_shapes ["self", "at"] (spSh K) := by
  refine T.F_Judge_shapes.ok sc_Judge_shapes (fun vs H Q E h => ?_) (fun cdv A outer s H vs Q E hr h => ?_)
  · obtain ⟨H0, a, dx, fs, f, cd, tk, gv, ls, lw, n, i, rfl, _⟩ := h; rfl
  · obtain ⟨H0, a, dx, fs, f, cd, tk, gv, ls, lw, n, i, rfl, hj, hi, q⟩ := h
    refine ⟨_, PSs.nox (pss_cons (ps_set (i := 2) sc_Judge_shapes.nd rfl (.inl rfl) (pe_ix (r := rIxT K) ix_tup (pe_fld (pv 0) rfl) (pv 1) (fun _ _ => rfl)))
    (pss_one (ps_if (pt_cmpR (r := rIn K false) op_in_seq (pe_ix (r := rIxT K) ix_tup (pv 2) pe_int (fun _ _ => rfl)) (pe_tup (pa_cons pe_str (pa_cons pe_str pa_nil))) (by rfl))
    pss_dead
    pss_nil))), ?_⟩
    obtain ⟨pi, k, rest, e1, e2, hk⟩ := hj.i.ins hi
    refine ⟨_, rfl, a, _, dx, _, .ref cd, rfl, hj.at_, T.c_Judge, T.n_Judge_code, rfl, _, rfl, cd, _, i, _, rfl, rfl, hj.i.cd_, atI_nat e1, ?_⟩
    refine ⟨_, rfl, pi, _, 0, .str k, rfl, rfl, e2, atI_nat (j := 0) rfl, (by show 2 ≤ sizeLine; decide), fun t ht => ⟨t, _, rfl, .inr (sqt_new upd_same), rfl, rfl, false, ?_, iteF (q _ (Same.one ht))⟩⟩
    rcases hk with ⟨rfl, rfl⟩ | ⟨rfl, rfl⟩ <;> rfl
include S
theorem ok_Jr : FnOk P w K mg base (L2.CX P w) 8 (He.ma K (He.ga K "Judge") "refuse") T.d_Judge_refuse ["self", "kind", "at"] (spRf K) := by
  refine T.F_Judge_refuse.ok sc_Judge_refuse (fun vs H Q E h => ?_) (fun cdv A outer s H vs Q E hr h => ?_)
  · obtain ⟨H0, a, dx, fs, f, cd, tk, gv, ls, lw, n, k, i, rfl, _⟩ := h; rfl
  · obtain ⟨H0, a, dx, fs, f, cd, tk, gv, ls, lw, n, k, i, rfl, hj, hk, hi, q⟩ := h
    refine ⟨_, (pss_one (ps_raise rfl (takes_of rfl rfl rfl rfl) (pmk_oex S.o_Refused S.i_Refused S.t_Refused (S.f_Refused _) (hr.mono (by omega)) S.b_Refused .nil pass0 (by rfl) T.g_Refused (pa_cons (pv 1) (pa_cons (pe_fld (pv 0) rfl) (pa_cons (pv 2) pa_nil)))))), ?_⟩
    exact ⟨_, rfl, _, rfl, a, _, dx, _, .int 0, rfl, hj.at_, T.c_Judge, T.n_Judge_number, rfl, _, rfl, (by show 3 ≤ 1000; decide), fun e he => mk_exc ⟨k, 0, i, rfl, hk, by decide, hi⟩ he fun H' d s hx => q H' d s hx⟩
include S
theorem ok_Jp : FnOk P w K mg base CX0 3 (He.ma K (He.ga K "Judge") "pieces") T.d_Judge_pieces ["self", "at"] (spSh K) := by
  have G_Judge_shapes := ok_Js (P := P) (w := w) (base := base) T
  obtain ⟨es, ne, kd_PIECES⟩ := S.kP
  refine T.F_Judge_pieces.ok sc_Judge_pieces (fun vs H Q E h => ?_) (fun cdv A outer s H vs Q E hr h => ?_)
  · obtain ⟨H0, a, dx, fs, f, cd, tk, gv, ls, lw, n, i, rfl, _⟩ := h; rfl
  · obtain ⟨H0, a, dx, fs, f, cd, tk, gv, ls, lw, n, i, rfl, hj, hi, q⟩ := h
    refine ⟨_, PSs.nox (pss_cons (ps_set (i := 2) sc_Judge_pieces.nd rfl (.inl rfl) (pe_ix (r := rIxT K) ix_tup (pe_fld (pv 0) rfl) (pv 1) (fun _ _ => rfl)))
    (pss_cons (ps_for PassesOwn.never rfl (R71.pi_zipST (by rfl) T.zip (pa_cons (pe_ix (ix_kd kd_PIECES) (pe_gt rfl T.g_PIECES) (pe_ix (r := rIxT K) ix_tup (pv 2) pe_int (fun _ _ => rfl)) (fun _ _ => rfl)) (pa_cons (pe_slice sl_tupA (pv 2) (po_some pe_int) po_none) pa_nil))) (pg_tup rfl (pgs_cons (pg_name (i := 3) sc_Judge_pieces.nd rfl (.inl rfl)) (pgs_cons (pg_name (i := 4) sc_Judge_pieces.nd rfl (.inl rfl)) pgs_nil)))
    (pss_cons (ps_if (PW.pt (pw_and (pt_cmpR op_eq (pv 3) pe_str (nomark _)) (pw_and1 (pt_cmpR op_ge (pv 4) (pe_fld (pv 0) rfl) (nomark _)))))
    (pss_one ps_dead)
    pss_nil)
    (pss_one (ps_if (PW.pt (pw_and (pt_cmpR op_eq (pv 3) pe_str (nomark _)) (pw_and1 (pt_cmpR op_gt (pv 4) (pe_gi (i := 9999) rfl T.MOST_WORD) (nomark _)))))
    (pss_one ps_dead)
    pss_nil))))
    (pss_cons (ps_set (i := 5) sc_Judge_pieces.nd rfl (.inl rfl) (pe_ix (r := rIxT K) ix_tup (pv 2) pe_int (fun _ _ => rfl)))
    (pss_cons (ps_if (PW.pt (pw_and (pt_cmpR (r := rIn K false) op_in_seq (pv 5) (pe_tup (pa_cons pe_str (pa_cons pe_str pa_nil))) (by rfl)) (pw_and1 (pt_cmpR op_ge (pe_ix (r := rIxT K) ix_tup (pv 2) (pe_op op_add pe_int (pe_callTy call_int1 (by rfl) T.int (by decide +kernel) (pa_cons (pe_cmpR op_eq (pv 5) pe_str (nomark _)) pa_nil))) (fun _ _ => rfl)) (pe_ix (r := rIxT K) ix_tup (pe_fld (pv 0) rfl) pe_int (fun _ _ => rfl)) (nomark _)))))
    (pss_one ps_dead)
    pss_nil)
    (pss_cons (ps_if (PW.pt (pw_and (pt_cmpR op_eq (pv 5) pe_str (nomark _)) (pw_and1 (pt_cmpR op_ge (pe_ix (r := rIxT K) ix_tup (pv 2) pe_int (fun _ _ => rfl)) (pe_ix (r := rIxT K) ix_tup (pe_fld (pv 0) rfl) pe_int (fun _ _ => rfl)) (nomark _)))))
    (pss_one ps_dead)
    pss_nil)
    (pss_cons (ps_if (PW.pt (pw_and (pt_cmpR op_eq (pv 5) pe_str (nomark _)) (pw_and1 (pt_cmpR op_ge (pe_ix (r := rIxT K) ix_tup (pv 2) pe_int (fun _ _ => rfl)) (pe_ix (r := rIxT K) ix_tup (pe_fld (pv 0) rfl) pe_int (fun _ _ => rfl)) (nomark _)))))
    (pss_one ps_dead)
    pss_nil)
    (pss_cons (ps_if (PW.pt (pw_and (pt_cmpR (r := rIn K false) op_in_seq (pv 5) (pe_tup (pa_cons pe_str (pa_cons pe_str (pa_cons pe_str pa_nil)))) (by rfl)) (pw_and1 (pt_cmpR op_ge (pe_ix (r := rIxT K) ix_tup (pv 2) (pe_un un_neg pe_int) (fun _ _ => rfl)) (pe_callB (r := rLenS K) call_len_seq (by rfl) T.len (by decide +kernel) (pa_cons (pe_fld (pv 0) rfl) pa_nil)) (nomark _)))))
    (pss_one ps_dead)
    pss_nil)
    (pss_one (ps_expr (pe_meth (pv 0) T.c_Judge T.mt_Judge_shapes G_Judge_shapes (hr.mono (by omega)) T.b_Judge_shapes .nil pass0 (pa_cons (pv 1) pa_nil))))))))))), ?_⟩
    obtain ⟨pi, k, rest, e1, e2, hk⟩ := hj.i.ins hi
    obtain ⟨u, m, hu, ru, hm⟩ : ∃ (u : Value) (m : Str), PySem.W.nsIn K (He.ga K "PIECES") k = some (some u) ∧ RelV (.str m) u ∧ ((m = "" ∧ rest = []) ∨ (m = "b" ∧ rest = [.int 0])) := by
      rcases hk with ⟨rfl, rfl⟩ | ⟨rfl, rfl⟩
      · obtain ⟨u, h1, h2⟩ := S.vPt; exact ⟨u, "", h1, h2, .inl ⟨rfl, rfl⟩⟩
      · obtain ⟨u, h1, h2⟩ := S.vPg; exact ⟨u, "b", h1, h2, .inr ⟨rfl, rfl⟩⟩
    refine ⟨_, rfl, a, _, dx, _, .ref cd, rfl, hj.at_, T.c_Judge, T.n_Judge_code, rfl, _, rfl, cd, _, i, _, rfl, rfl, hj.i.cd_, atI_nat e1, ?_⟩
    refine ⟨_, rfl, pi, _, 0, .str k, rfl, rfl, e2, atI_nat (j := 0) rfl, k, u, .str m, rfl, rfl, hu, ru, ?_⟩
    refine ⟨_, rfl, 1, rfl, pi, _, rfl, e2, ?_⟩
    have hcut : cutV (.str k :: rest) (some 1) none = rest := by rcases hk with ⟨_, rfl⟩ | ⟨_, rfl⟩ <;> rfl
    refine ⟨fun hh => ?_, fun _ t ht => ?_⟩
    · rcases hk with ⟨_, rfl⟩ | ⟨_, rfl⟩
      · exact absurd hh.1 (show ¬ HT.sIx 1 0 (some 1) = 0 by decide)
      · exact absurd hh.1 (show ¬ HT.sIx 2 0 (some 1) = 0 by decide)
    rw [hcut]
    have st := Same.one (o := .tup rest) ht
    refine ⟨m, t, rest, rfl, sqt_new upd_same, ?_⟩
    refine for_it (R71.walk_zipST (ys := rest) (n := rest.length) (by rcases hm with ⟨rfl, rfl⟩ | ⟨rfl, rfl⟩ <;> rfl)) (fun j σ H' => Same (upd H t (.tup rest)) H' ∧ ∃ y3 y4, σ = [some (.ref a), some (.int i), some (.ref pi), y3, y4, none]) ⟨Same.refl _, _, _, rfl⟩ (fun j σ H' _ hP => hP.1.sqt (sqt_new upd_same)) (fun j v σ H1 H2 hj2 hP hy => ?_) (fun σ H' hP => ?_)
    · obtain ⟨s1, y3, y4, rfl⟩ := hP
      obtain ⟨t2, x, y, rfl, ht2, rfl, hx, hy⟩ := hy
      have hmb : m = "b" ∧ x = .str "b" ∧ y = .int 0 := by
        rcases hm with ⟨rfl, rfl⟩ | ⟨rfl, rfl⟩
        · exact absurd hj2 (by simp)
        · have hj0 : j = 0 := by simp at hj2; exact hj2
          subst hj0
          refine ⟨rfl, ?_, ?_⟩
          · have : (("b" : Str).cps[0]?.map fun c => V.str ⟨#[c]⟩) = some (V.str "b") := by decide +kernel
            have hx : (("b" : Str).cps[0]?.map fun c => V.str ⟨#[c]⟩) = some x := hx
            rw [this] at hx; cases hx; rfl
          · have hy : ([V.int 0] : List V)[0]? = some y := hy
            cases hy; rfl
      obtain ⟨_, rfl, rfl⟩ := hmb
      have hj3 := hj.same ((st.trans s1).trans (Same.one (o := .tup [.str "b", .int 0]) ht2))
      refine ⟨t2, _, rfl, sqt_new upd_same, rfl, _, _, rfl, _, _, rfl, rfl, ?_⟩
      refine ⟨_, rfl, rfl, true, rfl, iteT ⟨_, rfl, _, rfl, a, _, dx, _, .int 4, rfl, hj3.at_, T.c_Judge, T.n_Judge_boxes, rfl, _, _, rfl, rfl, false, rfl, iteF ?_⟩⟩
      exact ⟨_, rfl, rfl, false, rfl, iteF ⟨s1.trans (Same.one ht2), _, _, rfl⟩⟩
    obtain ⟨s1, y3, y4, rfl⟩ := hP
    have s2 := st.trans s1
    refine ⟨_, rfl, pi, _, 0, .str k, rfl, rfl, s2.sqt e2, atI_nat (j := 0) rfl, ?_⟩
    have kk : ∀ z : Str, z ≠ "tick" → z ≠ "give" → V.bl (decide (V.str k = V.str z)) = V.bl false := fun z h1 h2 => by
      have : V.str k ≠ V.str z := fun e => by
        have e := V.str.inj e
        rcases hk with ⟨rfl, _⟩ | ⟨rfl, _⟩
        · exact h1 e.symm
        · exact h2 e.symm
      rw [decide_eq_false this]
    refine ⟨_, rfl, (by show 2 ≤ sizeLine; decide), fun t3 ht3 => ⟨t3, _, rfl, .inr (sqt_new upd_same), rfl, rfl, false, ?_, iteF ?_⟩⟩
    · rcases hk with ⟨rfl, _⟩ | ⟨rfl, _⟩ <;> rfl
    have s3 := s2.trans (Same.one (o := .tup [.str "keep", .str "fetch"]) ht3)
    refine ⟨_, rfl, rfl, false, kk _ (by decide) (by decide), iteF ?_⟩
    refine ⟨_, rfl, rfl, false, kk _ (by decide) (by decide), iteF ?_⟩
    refine ⟨_, rfl, (by show 3 ≤ sizeLine; decide), fun t4 ht4 => ⟨t4, _, rfl, .inr (sqt_new upd_same), rfl, rfl, false, ?_, iteF ?_⟩⟩
    · rcases hk with ⟨rfl, _⟩ | ⟨rfl, _⟩ <;> rfl
    have s4 := s3.trans (Same.one (o := .tup [.str "to", .str "fork", .str "handle"]) ht4)
    have hj4 := hj.same s4
    exact ⟨_, rfl, a, dx, _, rfl, hj4.at_, rfl, _, rfl, H0, a, dx, fs, f, cd, tk, gv, ls, lw, n, i, rfl, hj4, hi, fun H' s5 => q _ (s4.trans s5)⟩
end
end K71

set_option Elab.async false
set_option linter.all false
set_option maxRecDepth 100000
set_option maxHeartbeats 4000000
namespace K71
open PySem PySem.Spec PyProof.Rows L2
theorem zpb {m : Str} {r : List V} {j : Nat} {x y : V} (hm : (m = "" ∧ r = []) ∨ (m = "b" ∧ r = [.int 0])) (hj : j < r.length) (hx : (m.cps[j]?.map fun c => V.str ⟨#[c]⟩) = some x) (hy : r[j]? = some y) : j = 0 ∧ m = "b" ∧ x = .str "b" ∧ y = .int 0 ∧ r = [.int 0] := by
  rcases hm with ⟨rfl, rfl⟩ | ⟨rfl, rfl⟩
  · exact absurd hj (by simp)
  · have hj0 : j = 0 := by simp at hj; exact hj
    subst hj0
    refine ⟨rfl, rfl, ?_, ?_, rfl⟩
    · have : (("b" : Str).cps[0]?.map fun c => V.str ⟨#[c]⟩) = some (V.str "b") := by decide +kernel
      rw [this] at hx; cases hx; rfl
    · cases hy; rfl
theorem dst_lst {K : PySem.W.Frag} {H : Hp} {st l : Addr} {ys : List V} {o : HO} (h : Dp K H (.ref st) dSt) (hl : H l = some (.lst ys)) : Dp K (upd H l o) (.ref st) dSt := by
  obtain ⟨p, xs, e, hp, ha⟩ := dtup h
  cases e
  obtain ⟨x1, _, rfl, h1, ha⟩ := dpa_cons ha
  obtain ⟨x2, _, rfl, h2, ha⟩ := dpa_cons ha
  obtain ⟨x3, _, rfl, h3, ha⟩ := dpa_cons ha
  obtain ⟨x4, _, rfl, h4, ha⟩ := dpa_cons ha
  obtain ⟨x5, _, rfl, h5, ha⟩ := dpa_cons ha
  obtain rfl := dpa_nil ha
  obtain ⟨p1, _, rfl, g1, a1⟩ := dtup h1
  obtain rfl := dpa_nil a1
  obtain ⟨p2, _, rfl, g2, a2⟩ := dtup h2
  obtain rfl := dpa_nil a2
  obtain rfl := dp_int h3
  obtain rfl := dp_int h5
  cases h4
  exact .tup (sqt_lst hp hl) (.cons (.tup (sqt_lst g1 hl) .nil) (.cons (.tup (sqt_lst g2 hl) .nil) (.cons (.int _) (.cons (.bl _) (.cons (.int _) .nil)))))
def kr (k : Str) (r : List V) : Prop := (k = "tick" ∧ r = []) ∨ (k = "give" ∧ r = [.int 0])
def spTn (K : PySem.W.Frag) : Sp := fun vs H Q _ => ∃ (a dx : Addr) (fs : List (Str × V)) (p : Addr) (k : Str) (r : List V), vs = [.ref a, .ref p] ∧ SqT K H p (.str k :: r) ∧ kr k r ∧ ∀ H', Same H H' → Q (.int 0) H'
def spUs (K : PySem.W.Frag) : Sp := fun vs H Q _ => ∃ (a p : Addr) (k : Str) (r : List V), vs = [.ref a, .ref p] ∧ SqT K H p (.str k :: r) ∧ kr k r ∧ ∀ H' l, Same H H' → H' l = some (.lst r) → Q (.ref l) H'
def spNd (K : PySem.W.Frag) : Sp := fun vs H Q E => ∃ (H0 : Hp) (a dx fs f cd tk gv ls lw : Addr) (n i : Nat) (l st : Addr) (r : List V) (b s x1 x2 x3 : V), vs = [.ref a, .int i, .ref l, .ref st] ∧ Jd K H0 a dx fs f cd tk gv ls lw n H ∧ i ≤ n ∧ H l = some (.lst r) ∧ SqT K H st [b, s, x1, x2, x3] ∧ Dp K H b (.tuple []) ∧ (r = [] ∨ r = [.int 0]) ∧
  (r = [] → ∀ H', Same H H' → Q .non H') ∧ (r = [.int 0] → eRf K H "empty" i E)
def spCm (K : PySem.W.Frag) : Sp := fun vs H Q _ => ∃ (H0 : Hp) (a dx fs f cd tk gv ls lw : Addr) (n i : Nat) (st : Addr) (Ss Ws : List V), vs = [.ref a, .int i, .ref st] ∧ Jd K H0 a dx fs f cd tk gv ls lw n H ∧ i ≤ n ∧ H ls = some (.lst Ss) ∧ H lw = some (.lst Ws) ∧ Ss.length = n + 1 ∧ Ss[i]? = some .non ∧ Ws.length ≤ 20 ∧ Dp K H (.ref st) dSt ∧
  ∀ H', Jd K H0 a dx fs f cd tk gv ls lw n H' → H' ls = some (.lst (Ss.set i (.ref st))) → H' lw = some (.lst (Ws ++ [.int i])) → Dp K H' (.ref st) dSt → (∀ b o, b ≠ ls → b ≠ lw → H b = some o → H' b = some o) → Q .non H'
def spBh (K : PySem.W.Frag) : Sp := fun vs H Q E => ∃ (H0 : Hp) (a dx fs f cd tk gv ls lw : Addr) (n i : Nat) (st : Addr), vs = [.ref a, .int i, .ref st] ∧ Jd K H0 a dx fs f cd tk gv ls lw n H ∧ i ≤ n ∧ Dp K H (.ref st) dSt ∧
  (i < n → ∀ H' t, Same H H' → Dp K H' (.ref t) dSt → Q (.ref t) H') ∧ (i = n → eRf K H "empty" i E)
def spGo (K : PySem.W.Frag) : Sp := fun vs H Q E => ∃ (H0 : Hp) (a dx fs f cd tk gv ls lw : Addr) (n i : Nat) (st : Addr) (Ss : List V), vs = [.ref a, .int i, .ref st] ∧ Jd K H0 a dx fs f cd tk gv ls lw n H ∧ i ≤ n ∧ H ls = some (.lst Ss) ∧ H lw = some (.lst []) ∧ Ss.length = n + 1 ∧ (∀ j, i < j → j ≤ n → Ss[j]? = some .non) ∧ Dp K H (.ref st) dSt ∧
  (i < n → ∀ H' t, Jd K H0 a dx fs f cd tk gv ls lw n H' → H' ls = some (.lst (Ss.set (i + 1) (.ref t))) → H' lw = some (.lst [.int ((i + 1 : Nat) : Int)]) → Dp K H' (.ref t) dSt → Q .non H') ∧ (i = n → eRf K H "empty" i E)
section
variable {P : Program} {w : World} {K : PySem.W.Frag} {mg : Str → Option Value} {base : Heap} (T : Txt K mg) (S : Ext P w K mg)
include T
theorem ok_Jt : FnOk P w K mg base CX0 1 (He.ma K (He.ga K "Judge") "taken") T.d_Judge_taken ["self", "instruction"] (spTn K) := by
  refine T.F_Judge_taken.ok sc_Judge_taken (fun vs H Q E h => ?_) (fun cdv A outer s H vs Q E hr h => ?_)
  · obtain ⟨a, dx, fs, p, k, r, rfl, _⟩ := h; rfl
  · obtain ⟨a, dx, fs, p, k, r, rfl, hp, hk, q⟩ := h
    refine ⟨_, PSs.nox (pss_cons (ps_if (pt_cmpR (r := rIn K false) op_in_seq (pe_ix (r := rIxT K) ix_tup (pv 1) pe_int (fun _ _ => rfl)) (pe_tup (pa_cons pe_str (pa_cons pe_str pa_nil))) (by rfl))
    (pss_one (ps_ret (pe_ix (r := rIxT K) ix_tup (pv 1) pe_int (fun _ _ => rfl))))
    pss_nil)
    (pss_one (ps_ret (pe_ifExp (pt_cmpR (r := rIn K false) op_in_seq (pe_ix (r := rIxT K) ix_tup (pv 1) pe_int (fun _ _ => rfl)) (pe_gt rfl T.g_ENTERS) (by rfl)) (pe_ix (r := rIxT K) ix_tup (pv 1) pe_int (fun _ _ => rfl)) pe_int)))), ?_⟩
    have hin : ∀ xs, (xs = [V.str "make", V.str "closure"] ∨ xs = List.map (He.Dv.v K) [.str "call", .str "apply"]) → V.bl (inV (V.str k) xs) = V.bl false := fun xs h => by
      rcases h with rfl | rfl <;> rcases hk with ⟨rfl, _⟩ | ⟨rfl, _⟩ <;> rfl
    refine ⟨_, rfl, p, _, 0, .str k, rfl, rfl, hp, atI_nat (j := 0) rfl, (by show 2 ≤ sizeLine; decide), fun t ht => ⟨t, _, rfl, .inr (sqt_new upd_same), rfl, rfl, false, hin _ (.inl rfl), iteF ?_⟩⟩
    have s1 := Same.one (o := .tup [.str "make", .str "closure"]) ht
    exact ⟨_, rfl, p, _, 0, .str k, rfl, rfl, s1.sqt hp, atI_nat (j := 0) rfl, _, _, rfl, .inr (He.tupB_ok T.tup_ENTERS _), rfl, rfl, false, hin _ (.inr rfl), iteF (q _ s1)⟩
theorem ok_Jc : FnOk P w K mg base CX0 1 (He.ma K (He.ga K "Judge") "come") T.d_Judge_come ["self", "at", "state"] (spCm K) := by
  refine T.F_Judge_come.ok sc_Judge_come (fun vs H Q E h => ?_) (fun cdv A outer s H vs Q E hr h => ?_)
  · obtain ⟨H0, a, dx, fs, f, cd, tk, gv, ls, lw, n, i, st, Ss, Ws, rfl, _⟩ := h; rfl
  · obtain ⟨H0, a, dx, fs, f, cd, tk, gv, ls, lw, n, i, st, Ss, Ws, rfl, hj, hi, h1, h2, h3, h4, h5, h6, q⟩ := h
    refine ⟨_, PSs.nox (pss_cons (ps_if (pt_cmpR op_ge (pv 1) (pe_callB (r := rLenS K) call_len_seq (by rfl) T.len (by decide +kernel) (pa_cons (pe_fld (pv 0) rfl) pa_nil)) (nomark _))
    (pss_one ps_dead)
    pss_nil)
    (pss_cons (ps_set (i := 3) sc_Judge_come.nd rfl (.inl rfl) (pe_ix (r := rIxL K) ix_list (pe_fld (pv 0) rfl) (pv 1) (fun _ _ => rfl)))
    (pss_cons (ps_if (pt_cmpR op_notN (pv 3) pe_non (nomark _))
    pss_dead
    pss_nil)
    (pss_one (ps_if (pt_cmpR (r := rNeM K) (op_neM hr.units) (pv 2) (pv 3) (nomark _))
    (pss_cons (ps_asg (pv 2) (pg_sub (pe_fld (pv 0) rfl) (pv 1) set_list))
    (pss_one (ps_expr (pe_bm PySem.F.plainAttrs_list PySem.F.slot_list_append PySem.F.type_list_append mt_append (pe_fld (pv 0) rfl) (pa_cons (pv 1) pa_nil)))))
    pss_nil))))), ?_⟩
    refine ⟨_, rfl, _, rfl, a, _, dx, _, .ref cd, rfl, hj.at_, T.c_Judge, T.n_Judge_code, rfl, cd, _, rfl, .inr hj.i.cd_, _, _, rfl, rfl, false, ?_, iteF ?_⟩
    · show V.bl (decide (((codeN n tk gv).length : Nat) ≤ (i : Int))) = V.bl false
      rw [codeN_len, decide_eq_false (by omega)]
    refine ⟨_, rfl, a, _, dx, _, .ref ls, rfl, hj.at_, T.c_Judge, T.n_Judge_sure, rfl, _, rfl, ls, _, i, .non, rfl, rfl, sql_new h1, atI_nat h4, ?_⟩
    refine ⟨_, rfl, rfl, false, rfl, iteF ?_⟩
    refine ⟨_, rfl, _, rfl, dSt, .none, h6, .non, by decide +kernel, by decide +kernel, by decide +kernel, true, by rfl, iteT ?_⟩
    refine ⟨_, rfl, ?_⟩
    have al : a ≠ ls := fun z => by have := hj.at_; rw [z, h1] at this; cases this
    have aw : a ≠ lw := fun z => by have := hj.at_; rw [z, h2] at this; cases this
    have hix : ixN Ss.length ((i : Nat) : Int) = some i := by rw [h3]; unfold ixN; simp; omega
    refine ⟨_, rfl, a, _, dx, _, .ref ls, rfl, hj.at_, T.c_Judge, T.n_Judge_sure, rfl, _, rfl, ls, Ss, (i : Nat), i, rfl, rfl, h1, hix, ?_⟩
    have e1 : upd H ls (.lst (Ss.set i (.ref st))) a = some (.ins (He.ga K "Judge") dx (jFs fs f cd ls lw)) := by rw [upd_ne al]; exact hj.at_
    have e2 : upd H ls (.lst (Ss.set i (.ref st))) lw = some (.lst Ws) := by rw [upd_ne hj.ne.symm]; exact h2
    have d1 : Dp K (upd H ls (.lst (Ss.set i (.ref st)))) (.ref st) dSt := dst_lst h6 h1
    refine ⟨_, rfl, a, _, dx, _, .ref lw, rfl, e1, T.c_Judge, T.n_Judge_waiting, rfl, .inl ⟨rfl, _, sql_new e2⟩, _, rfl, lw, Ws, .int i, rfl, rfl, e2, Nat.lt_of_le_of_lt h5 (by decide), ?_⟩
    exact q _ ⟨(hj.s.upd_new hj.ns).upd_new hj.nw, hj.im, hj.na, hj.ns, hj.nw, hj.ne, by rw [upd_ne aw]; exact e1⟩ (by rw [upd_ne hj.ne]; exact upd_same) upd_same (dst_lst d1 e2) fun b o b1 b2 hb => by rw [upd_ne b2, upd_ne b1]; exact hb
include S
theorem ok_Ju : FnOk P w K mg base CX0 1 (He.ma K (He.ga K "Judge") "used") T.d_Judge_used ["self", "instruction"] (spUs K) := by
  obtain ⟨es, ne, kd_PIECES⟩ := S.kP
  refine T.F_Judge_used.ok sc_Judge_used (fun vs H Q E h => ?_) (fun cdv A outer s H vs Q E hr h => ?_)
  · obtain ⟨a, p, k, r, rfl, _⟩ := h; rfl
  · obtain ⟨a, p, k, r, rfl, hp, hk, q⟩ := h
    refine ⟨_, PSs.nox (pss_cons (ps_set (i := 2) sc_Judge_used.nd rfl (.inl rfl) (pe_ix (ix_kd kd_PIECES) (pe_gt rfl T.g_PIECES) (pe_ix (r := rIxT K) ix_tup (pv 1) pe_int (fun _ _ => rfl)) (fun _ _ => rfl)))
    (pss_cons (ps_setLc (i := 3) (own := [("mark", 4), ("piece", 5)]) (g := gTup _ 2 (gCons (gName 4) (gCons (gName 5) gNil))) (by rfl) sc_Judge_used.nd rfl rfl (sw_true rfl rfl rfl (by decide +kernel)) (R71.pi_zipST (by rfl) T.zip (pa_cons (pv 2) (pa_cons (pe_slice sl_tupA (pv 1) (po_some pe_int) po_none) pa_nil))) (blkOk_by (own := [("mark", 4), ("piece", 5)]) (N := ["self", "instruction", "marks", "boxes", "mark", "piece"]) (sc := defScope s_Judge_used) (by decide +kernel)) (fun _ _ _ _ _ => (pg_tup rfl (pgs_cons (pg_name (i := 4) sc_Judge_used.nd rfl (.inl rfl)) (pgs_cons (pg_name (i := 5) sc_Judge_used.nd rfl (.inl rfl)) pgs_nil)))) (fun _ _ _ _ _ => pts_one (pt_cmpR op_eq (pv 4) pe_str (nomark _))) (fun _ _ _ _ _ => (pv 5)))
    (pss_one (ps_ret (pe_ifExp (PW.pt (pw_or (pt_cmpR (r := rIn K false) op_in_seq (pe_ix (r := rIxT K) ix_tup (pv 1) pe_int (fun _ _ => rfl)) (pe_gt rfl T.g_GIVES) (by rfl)) (pw_or1 (pt_cmpR op_eq (pe_ix (r := rIxT K) ix_tup (pv 1) pe_int (fun _ _ => rfl)) pe_str (nomark _))))) (pe_slice sl_list (pv 3) (po_some pe_int) po_none) (pv 3)))))), ?_⟩
    obtain ⟨u, m, hu, ru, hm⟩ : ∃ (u : Value) (m : Str), PySem.W.nsIn K (He.ga K "PIECES") k = some (some u) ∧ RelV (.str m) u ∧ ((m = "" ∧ r = []) ∨ (m = "b" ∧ r = [.int 0])) := by
      rcases hk with ⟨rfl, rfl⟩ | ⟨rfl, rfl⟩
      · obtain ⟨u, h1, h2⟩ := S.vPt; exact ⟨u, "", h1, h2, .inl ⟨rfl, rfl⟩⟩
      · obtain ⟨u, h1, h2⟩ := S.vPg; exact ⟨u, "b", h1, h2, .inr ⟨rfl, rfl⟩⟩
    have hcut : cutV (.str k :: r) (some 1) none = r := by rcases hk with ⟨_, rfl⟩ | ⟨_, rfl⟩ <;> rfl
    refine ⟨_, rfl, p, _, 0, .str k, rfl, rfl, hp, atI_nat (j := 0) rfl, k, u, .str m, rfl, rfl, hu, ru, ?_⟩
    refine ⟨_, rfl, _, rfl, 1, rfl, p, _, rfl, hp, fun hh => ?_, fun _ t ht => ?_⟩
    · rcases hk with ⟨_, rfl⟩ | ⟨_, rfl⟩
      · exact absurd hh.1 (show ¬ HT.sIx 1 0 (some 1) = 0 by decide)
      · exact absurd hh.1 (show ¬ HT.sIx 2 0 (some 1) = 0 by decide)
    rw [hcut]
    have st := Same.one (o := .tup r) ht
    refine ⟨m, t, r, rfl, sqt_new upd_same, fun D hD => ?_⟩
    refine lc_it (R71.walk_zipST (ys := r) (n := r.length) (by rcases hm with ⟨rfl, rfl⟩ | ⟨rfl, rfl⟩ <;> rfl)) (LcS _ D fun _ => [.int 0]) (LcS.zero hD fun _ => by simp) (fun j H' _ hP => hP.1.sqt (sqt_new upd_same)) (fun j v H1 H2 hj2 hP hy => ?_) (fun H' hP => ?_)
    · obtain ⟨t2, x, y, rfl, ht2, rfl, hx, hy⟩ := hy
      obtain ⟨rfl, _, rfl, rfl, hr⟩ := zpb hm hj2 hx hy
      refine ⟨t2, _, rfl, sqt_new upd_same, rfl, _, _, rfl, _, _, rfl, rfl, ?_⟩
      exact ⟨rfl, _, rfl, rfl, true, rfl, _, rfl, hP.yes hD (Same.one ht2) rfl (by decide)⟩
    · have e := hP.2.1
      have er : (List.range r.length).flatMap (fun _ => [V.int 0]) = r := by rcases hm with ⟨_, rfl⟩ | ⟨_, rfl⟩ <;> rfl
      rw [er] at e
      have s2 := st.trans hP.1
      refine ⟨_, rfl, p, _, 0, .str k, rfl, rfl, s2.sqt hp, atI_nat (j := 0) rfl, _, _, rfl, .inr (He.tupB_ok T.tup_GIVES _), rfl, rfl, false, ?_, ?_⟩
      · rcases hk with ⟨rfl, _⟩ | ⟨rfl, _⟩ <;> rfl
      refine ⟨_, rfl, p, _, 0, .str k, rfl, rfl, s2.sqt hp, atI_nat (j := 0) rfl, ?_, false, ?_, ?_⟩
      · rfl
      · rcases hk with ⟨rfl, _⟩ | ⟨rfl, _⟩ <;> rfl
      exact iteF ⟨_, rfl, q _ D s2 e⟩
theorem ok_Jn : FnOk P w K mg base (L2.CX P w) 9 (He.ma K (He.ga K "Judge") "need") T.d_Judge_need ["self", "at", "boxes", "state"] (spNd K) := by
  have G_Judge_refuse := ok_Jr (P := P) (w := w) (base := base) T S
  refine T.F_Judge_need.ok sc_Judge_need (fun vs H Q E h => ?_) (fun cdv A outer s H vs Q E hr h => ?_)
  · obtain ⟨H0, a, dx, fs, f, cd, tk, gv, ls, lw, n, i, l, st, r, b, s', x1, x2, x3, rfl, _⟩ := h; rfl
  · obtain ⟨H0, a, dx, fs, f, cd, tk, gv, ls, lw, n, i, l, st, r, b, s', x1, x2, x3, rfl, hj, hi, hl, hs, hb, hrr, q1, q2⟩ := h
    refine ⟨_, (pss_one (ps_if (pt_not (pt_val (pe_callB (r := rAll K) (cr_all rfl) (by rfl) T.all (by decide +kernel) (pa_cons (pe_lc (own := [("box", 4)]) (g := gName 4) (tt := tYes) (by rfl) sc_Judge_need.nd (pi_list (pv 2)) (blkOk_by (own := [("box", 4)]) (N := ["self", "at", "boxes", "state", "box"]) (sc := defScope s_Judge_need) (by decide +kernel)) (fun _ _ _ _ _ => (pg_name (i := 4) sc_Judge_need.nd rfl (.inl rfl))) (fun _ _ _ _ _ => pts_nil) (fun _ _ _ _ _ => (pe_cmpR (r := rIn K false) op_in_seq (pv 4) (pe_ix (r := rIxT K) ix_tup (pv 3) pe_int (fun _ _ => rfl)) (by rfl)))) pa_nil))))
    (pss_one (ps_expr (R71.pe_methS (pv 0) T.c_Judge T.mt_Judge_refuse G_Judge_refuse (hr.mono (by omega)) T.b_Judge_refuse (fun σ => passAt (takes_of rfl rfl rfl rfl) σ) (pa_cons pe_str (pa_cons (pv 1) pa_nil)))))
    pss_nil)), ?_⟩
    refine ⟨_, rfl, l, rfl, ⟨_, sql_new hl⟩, fun D hD => ?_⟩
    obtain ⟨pb, xs, rfl, hpb, hab⟩ := dtup hb
    obtain rfl := dpa_nil hab
    refine lc_it (walk_list (xs := r)) (fun j H' => Same H H' ∧ H' D = some (.lst (List.replicate j (.bl false))) ∧ j ≤ 9) ⟨Same.one hD, upd_same, by decide⟩ (fun j H' _ hP => sql_new (hP.1 _ _ hl)) (fun j v H1 H2 hj2 hP hy => ?_) (fun H' hP => ?_)
    · obtain ⟨s1, hD1, hj9⟩ := hP
      obtain ⟨rfl, hv⟩ := hy
      have hr0 : v = .int 0 ∧ j + 1 ≤ 9 := by
        rcases hrr with rfl | rfl
        · cases hv
        · have hj0 : j = 0 := by simp at hj2; exact hj2
          subst hj0; cases hv; exact ⟨rfl, by decide⟩
      obtain ⟨rfl, hj10⟩ := hr0
      have D0 : H D = none := hD
      exact ⟨rfl, _, rfl, _, rfl, st, _, 0, .ref pb, rfl, rfl, s1.sqt hs, atI_nat (j := 0) rfl, pb, [], rfl, .inr (s1.sqt hpb), rfl, rfl, _, hD1, Nat.lt_of_le_of_lt (by rw [List.length_replicate]; exact hj9 : _ ≤ 9) (by decide), s1.upd_new D0, by rw [upd_same, List.replicate_succ']; rfl, hj10⟩
    · obtain ⟨s1, hD1, _⟩ := hP
      have hj' := hj.same s1
      refine ⟨D, List.replicate r.length false, rfl, sql_new (by rw [List.map_replicate]; exact hD1), ?_⟩
      rcases hrr with rfl | rfl
      · exact ⟨true, rfl, iteF (q1 rfl _ s1)⟩
      · exact ⟨false, rfl, iteT ⟨_, rfl, a, dx, _, rfl, hj'.at_, rfl, _, rfl, H0, a, dx, fs, f, cd, tk, gv, ls, lw, n, "empty", (i : Nat), rfl, hj', by decide +kernel, by have := hj.im.le; omega, fun H2 d s2 hx => q2 rfl H2 d (s1.trans s2) hx⟩⟩
end
end K71

set_option Elab.async false
set_option linter.all false
set_option maxRecDepth 100000
set_option maxHeartbeats 4000000
namespace K71
open PySem PySem.Spec PyProof.Rows L2
def spRu (K : PySem.W.Frag) : Sp := fun vs H Q E => ∃ (H0 : Hp) (a dx fs f cd tk gv ls lw : Addr) (n : Nat), vs = [.ref a] ∧ Jd K H0 a dx fs f cd tk gv ls lw n H ∧ H ls = some (.lst (List.replicate (n + 1) .non)) ∧ H lw = some (.lst []) ∧ eRf K H0 "empty" n E
def spJg (K : PySem.W.Frag) : Sp := fun vs H Q E => ∃ (p fs f cd tk gv : Addr) (n : Nat), vs = [.ref p] ∧ SqT K H p [.int 4, .ref fs] ∧ Img K H fs f cd tk gv n ∧ eRf K H "empty" n E
section
variable {P : Program} {w : World} {K : PySem.W.Frag} {mg : Str → Option Value} {base : Heap} (T : Txt K mg) (S : Ext P w K mg)
include T S
theorem ok_Jb : FnOk P w K mg base (L2.CX P w) 10 (He.ma K (He.ga K "Judge") "behind") T.d_Judge_behind ["self", "at", "state"] (spBh K) := by
  have G_Judge_need := ok_Jn (P := P) (w := w) (base := base) T S
  have G_Judge_used := ok_Ju (P := P) (w := w) (base := base) T S
  have G_Judge_taken := ok_Jt (P := P) (w := w) (base := base) T
  refine T.F_Judge_behind.ok sc_Judge_behind (fun vs H Q E h => ?_) (fun cdv A outer s H vs Q E hr h => ?_)
  · obtain ⟨H0, a, dx, fs, f, cd, tk, gv, ls, lw, n, i, st, rfl, _⟩ := h; rfl
  · obtain ⟨H0, a, dx, fs, f, cd, tk, gv, ls, lw, n, i, st, rfl, hj, hi, hd, q1, q2⟩ := h
    refine ⟨_, (pss_cons (ps_set (i := 3) sc_Judge_behind.nd rfl (.inl rfl) (pe_ix (r := rIxT K) ix_tup (pe_fld (pv 0) rfl) (pv 1) (fun _ _ => rfl)))
    (pss_cons (ps_asg (pv 2) (pg_tup rfl (pgs_cons (pg_name (i := 4) sc_Judge_behind.nd rfl (.inl rfl)) (pgs_cons (pg_name (i := 5) sc_Judge_behind.nd rfl (.inl rfl)) (pgs_cons (pg_name (i := 6) sc_Judge_behind.nd rfl (.inl rfl)) (pgs_cons (pg_name (i := 7) sc_Judge_behind.nd rfl (.inl rfl)) (pgs_cons (pg_name (i := 8) sc_Judge_behind.nd rfl (.inl rfl)) pgs_nil)))))))
    (pss_cons (ps_set (i := 9) sc_Judge_behind.nd rfl (.inl rfl) (pe_ix (r := rIxT K) ix_tup (pv 3) pe_int (fun _ _ => rfl)))
    (pss_cons (ps_expr (R71.pe_methS (pv 0) T.c_Judge T.mt_Judge_need G_Judge_need (hr.mono (by omega)) T.b_Judge_need (fun σ => passAt (takes_of rfl rfl rfl rfl) σ) (pa_cons (pv 1) (pa_cons (pe_meth (pv 0) T.c_Judge T.mt_Judge_used G_Judge_used (hr.mono (by omega)) T.b_Judge_used .nil pass0 (pa_cons (pv 3) pa_nil)) (pa_cons (pv 2) pa_nil)))))
    (pss_cons (ps_if (PW.pt (pw_and (pt_cmpR op_eq (pv 9) pe_str (nomark _)) (pw_and1 (pt_cmpR (r := rIn K true) op_notIn_seq (pe_ix (r := rIxT K) ix_tup (pv 3) pe_int (fun _ _ => rfl)) (pv 5) (by rfl)))))
    (pss_one ps_dead)
    pss_nil)
    (pss_cons (ps_if (PW.pt (pw_and (pt_cmpR op_eq (pv 9) pe_str (nomark _)) (pw_and1 (pt_not (pt_val (pv 7))))))
    (pss_one ps_dead)
    pss_nil)
    (pss_cons (ps_set (i := 10) sc_Judge_behind.nd rfl (.inl rfl) (pe_meth (pv 0) T.c_Judge T.mt_Judge_taken G_Judge_taken (hr.mono (by omega)) T.b_Judge_taken .nil pass0 (pa_cons (pv 3) pa_nil)))
    (pss_cons (ps_if (PW.pt (pw_or (pt_cmpR op_lt (pv 6) (pv 10) (nomark _)) (pw_or1 (PW.pt (pw_and (pt_cmpR (r := rIn K false) op_in_seq (pv 9) (pe_gt rfl T.g_MAY_RAISE) (by rfl)) (pw_and1 (pt_cmpR op_ne (pv 6) (pv 10) (nomark _))))))))
    (pss_one ps_dead)
    pss_nil)
    (pss_cons (ps_if (PW.pt (pw_and (pt_cmpR (r := rIn K false) op_in_seq (pv 9) (pe_gt rfl T.g_MAY_RAISE) (by rfl)) (pw_and1 (pt_cmpR op_isN (pv 8) pe_non (nomark _)))))
    (pss_one ps_dead)
    pss_nil)
    (pss_cons (ps_set (i := 6) sc_Judge_behind.nd rfl (.inl rfl) (pe_op op_add (pe_op op_sub (pv 6) (pv 10)) (pe_callTy call_int1 (by rfl) T.int (by decide +kernel) (pa_cons (pe_cmpR op_eq (pv 9) pe_str (nomark _)) pa_nil))))
    (pss_cons (ps_if (PW.pt (pw_or (pt_cmpR (r := rIn K false) op_in_seq (pv 9) (pe_gt rfl T.g_GIVES) (by rfl)) (pw_or1 (pt_cmpR op_eq (pv 9) pe_str (nomark _)))))
    (pss_one ps_dead)
    pss_nil)
    (pss_cons (ps_if (pt_cmpR op_eq (pv 9) pe_str (nomark _))
    (pss_one ps_dead)
    pss_nil)
    (pss_cons (ps_if (pt_cmpR op_eq (pv 9) pe_str (nomark _))
    (pss_one ps_dead)
    pss_nil)
    (pss_one (ps_ret (pe_tup (pa_cons (pv 4) (pa_cons (pv 5) (pa_cons (pv 6) (pa_cons (pe_or (pv 7) (pe_one (pe_cmpR (r := rIn K false) op_in_seq (pv 9) (pe_gt rfl T.g_ENTERS) (by rfl)))) (pa_cons (pv 8) pa_nil))))))))))))))))))))), ?_⟩
    obtain ⟨pi, k, r, e1, e2, hk⟩ := hj.i.ins2 hi
    have hkr : kr k r := hk.elim (fun h => .inl ⟨h.1, h.2.1⟩) fun h => .inr ⟨h.1, h.2.1⟩
    obtain ⟨b, sv, g1, g2, g3⟩ := dst hd
    refine ⟨_, rfl, a, _, dx, _, .ref cd, rfl, hj.at_, T.c_Judge, T.n_Judge_code, rfl, _, rfl, cd, _, i, _, rfl, rfl, hj.i.cd_, atI_nat e1, ?_⟩
    refine ⟨_, rfl, st, _, rfl, g1, rfl, _, _, rfl, _, _, rfl, _, _, rfl, _, _, rfl, _, _, rfl, rfl, ?_⟩
    refine ⟨_, rfl, pi, _, 0, .str k, rfl, rfl, e2, atI_nat (j := 0) rfl, ?_⟩
    refine ⟨_, rfl, a, dx, _, rfl, hj.at_, rfl, _, rfl, _, rfl, a, dx, _, rfl, hj.at_, rfl, _, rfl, a, pi, k, r, rfl, e2, hkr, fun H1 l s1 hl => ?_⟩
    have hj1 := hj.same s1
    refine ⟨_, rfl, H0, a, dx, fs, f, cd, tk, gv, ls, lw, n, i, l, st, r, .ref b, .ref sv, .int 0, .bl false, .int (-1), rfl, hj1, hi, hl, s1.sqt g1, .tup (s1.sqt g2) .nil, ?_, fun hr0 H2 s2 => ?_, fun hr0 => ?_⟩
    · exact hkr.elim (fun h => .inl h.2) fun h => .inr h.2
    · rcases hk with ⟨rfl, rfl, hlt⟩ | ⟨_, h, _⟩
      case inr => rw [h] at hr0; cases hr0
      have s12 := s1.trans s2
      have hj2 := hj.same s12
      refine ⟨_, rfl, rfl, false, rfl, iteF ?_⟩
      refine ⟨_, rfl, rfl, false, rfl, iteF ?_⟩
      refine ⟨_, rfl, a, dx, _, rfl, hj2.at_, rfl, _, rfl, a, dx, [], pi, "tick", [], rfl, s12.sqt e2, .inl ⟨rfl, rfl⟩, fun H3 s3 => ?_⟩
      refine ⟨_, rfl, _, rfl, _, _, rfl, rfl, false, rfl, _, rfl, _, _, rfl, .inr (He.tupB_ok T.tup_MAY_RAISE _), rfl, rfl, false, rfl, iteF ?_⟩
      refine ⟨_, rfl, _, _, rfl, .inr (He.tupB_ok T.tup_MAY_RAISE _), rfl, rfl, false, rfl, iteF ?_⟩
      refine ⟨_, rfl, _, rfl, _, _, rfl, rfl, _, rfl, rfl, .inr ⟨false, rfl, _, _, rfl, rfl, ?_⟩⟩
      refine ⟨_, rfl, _, _, rfl, .inr (He.tupB_ok T.tup_GIVES _), rfl, rfl, false, rfl, _, rfl, rfl, false, rfl, iteF ?_⟩
      refine ⟨_, rfl, rfl, false, rfl, iteF ?_⟩
      refine ⟨_, rfl, rfl, false, rfl, iteF ?_⟩
      have s13 := s12.trans s3
      refine ⟨_, rfl, _, rfl, _, rfl, _, rfl, false, rfl, iteF ⟨_, rfl, _, _, rfl, .inr (He.tupB_ok T.tup_ENTERS _), rfl, rfl, _, rfl, (by show 5 ≤ sizeLine; decide), fun t ht => ?_⟩⟩
      have s4 := s13.trans (Same.one (o := .tup [.ref b, .ref sv, .int 0, .bl false, .int (-1)]) ht)
      exact q1 hlt _ t s4 (.tup (sqt_new upd_same) (.cons (.tup (s4.sqt g2) .nil) (.cons (.tup (s4.sqt g3) .nil) (.cons (.int _) (.cons (.bl _) (.cons (.int _) .nil))))))
    · rcases hk with ⟨_, h, _⟩ | ⟨rfl, rfl, hin⟩
      · rw [h] at hr0; cases hr0
      · exact fun H2 d s2 hx => q2 hin H2 d (s1.trans s2) hx
theorem ok_Jg : FnOk P w K mg base (L2.CX P w) 11 (He.ma K (He.ga K "Judge") "goals") T.d_Judge_goals ["self", "at", "state"] (spGo K) := by
  have G_Judge_behind := ok_Jb (P := P) (w := w) (base := base) T S
  have G_Judge_come := ok_Jc (P := P) (w := w) (base := base) T
  refine T.F_Judge_goals.ok sc_Judge_goals (fun vs H Q E h => ?_) (fun cdv A outer s H vs Q E hr h => ?_)
  · obtain ⟨H0, a, dx, fs, f, cd, tk, gv, ls, lw, n, i, st, Ss, rfl, _⟩ := h; rfl
  · obtain ⟨H0, a, dx, fs, f, cd, tk, gv, ls, lw, n, i, st, Ss, rfl, hj, hi, h1, h2, h3, h4, hd, q1, q2⟩ := h
    refine ⟨_, (pss_cons (ps_set (i := 3) sc_Judge_goals.nd rfl (.inl rfl) (pe_ix (r := rIxT K) ix_tup (pe_fld (pv 0) rfl) (pv 1) (fun _ _ => rfl)))
    (pss_cons (ps_set (i := 4) sc_Judge_goals.nd rfl (.inl rfl) (pe_ix (r := rIxT K) ix_tup (pv 3) pe_int (fun _ _ => rfl)))
    (pss_cons (ps_set (i := 5) sc_Judge_goals.nd rfl (.inl rfl) (R71.pe_methS (pv 0) T.c_Judge T.mt_Judge_behind G_Judge_behind (hr.mono (by omega)) T.b_Judge_behind (fun σ => passAt (takes_of rfl rfl rfl rfl) σ) (pa_cons (pv 1) (pa_cons (pv 2) pa_nil))))
    (pss_cons (ps_if (PW.pt (pw_and (pt_cmpR (r := rIn K false) op_in_seq (pv 4) (pe_gt rfl T.g_MAY_RAISE) (by rfl)) (pw_and1 (pt_cmpR op_ge (pe_ix (r := rIxT K) ix_tup (pv 2) pe_int (fun _ _ => rfl)) pe_int (nomark _)))))
    (pss_one ps_dead)
    pss_nil)
    (pss_cons (ps_if (pt_cmpR (r := rIn K false) op_in_seq (pv 4) (pe_tup (pa_cons pe_str (pa_cons pe_str pa_nil))) (by rfl))
    pss_dead
    pss_nil)
    (pss_one (ps_if (pt_cmpR (r := rIn K true) op_notIn_seq (pv 4) (pe_gt rfl T.g_LASTS) (by rfl))
    (pss_one (ps_expr (pe_meth (pv 0) T.c_Judge T.mt_Judge_come G_Judge_come (hr.mono (by omega)) T.b_Judge_come .nil pass0 (pa_cons (pe_op op_add (pv 1) pe_int) (pa_cons (pv 5) pa_nil)))))
    pss_nil))))))), ?_⟩
    obtain ⟨pi, k, r, e1, e2, hk⟩ := hj.i.ins2 hi
    refine ⟨_, rfl, a, _, dx, _, .ref cd, rfl, hj.at_, T.c_Judge, T.n_Judge_code, rfl, _, rfl, cd, _, i, _, rfl, rfl, hj.i.cd_, atI_nat e1, ?_⟩
    refine ⟨_, rfl, pi, _, 0, .str k, rfl, rfl, e2, atI_nat (j := 0) rfl, ?_⟩
    refine ⟨_, rfl, a, dx, _, rfl, hj.at_, rfl, _, rfl, _, rfl, H0, a, dx, fs, f, cd, tk, gv, ls, lw, n, i, st, rfl, hj, hi, hd, fun hlt H1 t s1 ht => ?_, q2⟩
    obtain ⟨rfl, rfl, _⟩ := hk.elim id fun h => absurd h.2.2 (by omega)
    have hj1 := hj.same s1
    refine ⟨_, rfl, _, _, rfl, .inr (He.tupB_ok T.tup_MAY_RAISE _), rfl, rfl, false, rfl, iteF ?_⟩
    refine ⟨_, rfl, (by show 2 ≤ sizeLine; decide), fun t2 ht2 => ⟨t2, _, rfl, .inr (sqt_new upd_same), rfl, rfl, false, rfl, iteF ?_⟩⟩
    have s2 := s1.trans (Same.one (o := .tup [.str "to", .str "fork"]) ht2)
    have hj2 := hj.same s2
    refine ⟨_, rfl, _, _, rfl, .inr (He.tupB_ok T.tup_LASTS _), rfl, rfl, true, rfl, iteT ?_⟩
    refine ⟨_, rfl, a, dx, _, rfl, hj2.at_, rfl, _, rfl, _, _, rfl, rfl, _, rfl, H0, a, dx, fs, f, cd, tk, gv, ls, lw, n, i + 1, t, Ss, [], rfl, hj2, hlt, s2 _ _ h1, s2 _ _ h2, h3, h4 _ (by omega) (by omega), by simp, ht.same (Same.one ht2), fun H' j1 g1 g2 g3 _ => q1 hlt H' t j1 g1 g2 g3⟩
theorem ok_Jrun : FnOk P w K mg base (L2.CX P w) 12 (He.ma K (He.ga K "Judge") "run") T.d_Judge_run ["self"] (spRu K) := by
  have G_Judge_pieces := ok_Jp (P := P) (w := w) (base := base) T S
  have G_Judge_come := ok_Jc (P := P) (w := w) (base := base) T
  have G_Judge_goals := ok_Jg (P := P) (w := w) (base := base) T S
  refine T.F_Judge_run.ok sc_Judge_run (fun vs H Q E h => ?_) (fun cdv A outer s H vs Q E hr h => ?_)
  · obtain ⟨H0, a, dx, fs, f, cd, tk, gv, ls, lw, n, rfl, _⟩ := h; rfl
  · obtain ⟨H0, a, dx, fs, f, cd, tk, gv, ls, lw, n, rfl, hj, h1, h2, q⟩ := h
    refine ⟨_, (pss_cons (ps_for (passes_of rfl) rfl (pi_range1 (by rfl) T.range (pa_cons (pe_callB (r := rLenS K) call_len_seq (by rfl) T.len (by decide +kernel) (pa_cons (pe_fld (pv 0) rfl) pa_nil)) pa_nil)) (pg_name (i := 1) sc_Judge_run.nd rfl (.inl rfl))
    (pss_one (ps_expr (pe_meth (pv 0) T.c_Judge T.mt_Judge_pieces G_Judge_pieces (hr.mono (by omega)) T.b_Judge_pieces .nil pass0 (pa_cons (pv 1) pa_nil)))))
    (pss_cons (ps_expr (pe_meth (pv 0) T.c_Judge T.mt_Judge_come G_Judge_come (hr.mono (by omega)) T.b_Judge_come .nil pass0 (pa_cons pe_int (pa_cons (pe_tup (pa_cons (pe_tup pa_nil) (pa_cons (pe_tup pa_nil) (pa_cons pe_int (pa_cons pe_bl (pa_cons (pe_un un_neg pe_int) pa_nil)))))) pa_nil))))
    (pss_one (ps_while (passes_of rfl) (pt_cmpR op_gt (pe_callB (r := rLenS K) call_len_seq (by rfl) T.len (by decide +kernel) (pa_cons (pe_fld (pv 0) rfl) pa_nil)) pe_int (nomark _))
    (pss_cons (ps_set (i := 1) sc_Judge_run.nd rfl (.inl rfl) (pe_bm0 PySem.F.plainAttrs_list PySem.F.slot_list_pop PySem.F.type_list_pop mt_pop (pe_fld (pv 0) rfl)))
    (pss_one (ps_expr (R71.pe_methS (pv 0) T.c_Judge T.mt_Judge_goals G_Judge_goals (hr.mono (by omega)) T.b_Judge_goals (fun σ => passAt (takes_of rfl rfl rfl rfl) σ) (pa_cons (pv 1) (pa_cons (pe_ix (r := rIxL K) ix_list (pe_fld (pv 0) rfl) (pv 1) (fun _ _ => rfl)) pa_nil)))))))))), ?_⟩
    have hn8 := hj.im.le
    refine ⟨_, rfl, a, _, dx, _, .ref cd, rfl, hj.at_, T.c_Judge, T.n_Judge_code, rfl, cd, _, rfl, .inr hj.i.cd_, ((n + 1 : Nat) : Int), by rw [codeN_len], by omega, by omega, ?_⟩
    refine for_it (walk_range (lo := 0) (n := ((n + 1 : Nat) : Int).toNat)) (fun j σ H' => Same H H' ∧ ∃ y, σ = [some (.ref a), y]) ⟨Same.refl _, _, rfl⟩ (fun _ _ _ _ _ => trivial) (fun j v σ H1 H2 hj2 hP hy => ?_) (fun σ H1 hP => ?_)
    · obtain ⟨rfl, rfl⟩ := hy
      obtain ⟨s1, y, rfl⟩ := hP
      have hj1 := hj.same s1
      have hjn : j < n + 1 := by simpa using hj2
      exact ⟨_, rfl, a, dx, _, rfl, hj1.at_, rfl, _, rfl, H0, a, dx, fs, f, cd, tk, gv, ls, lw, n, j, by simp, hj1, by omega, fun H' s2 => ⟨s1.trans s2, _, rfl⟩⟩
    obtain ⟨s1, y, rfl⟩ := hP
    have hj1 := hj.same s1
    refine ⟨_, rfl, a, dx, _, rfl, hj1.at_, rfl, ?_⟩
    refine ⟨Nat.zero_le _, fun b hb => ⟨Nat.zero_le _, fun c hc => ⟨_, rfl, (by show 5 ≤ sizeLine; decide), fun t ht => ?_⟩⟩⟩
    have sb := Same.one (o := .tup []) hb
    have sc := Same.one (o := .tup []) hc
    have st := Same.one (o := .tup [.ref b, .ref c, .int 0, .bl false, .int (-1)]) ht
    have s2 := (sb.trans sc).trans st
    have hj2 := hj1.same s2
    have dt : Dp K (upd (upd (upd H1 b (.tup [])) c (.tup [])) t (.tup [.ref b, .ref c, .int 0, .bl false, .int (-1)])) (.ref t) dSt :=
      .tup (sqt_new upd_same) (.cons (.tup (sqt_new ((sc.trans st) _ _ upd_same)) .nil) (.cons (.tup (sqt_new (st _ _ upd_same)) .nil) (.cons (.int _) (.cons (.bl _) (.cons (.int _) .nil)))))
    refine ⟨H0, a, dx, fs, f, cd, tk, gv, ls, lw, n, 0, t, _, [], rfl, hj2, Nat.zero_le _, (s1.trans s2) _ _ h1, (s1.trans s2) _ _ h2, by simp, by simp, by simp, dt, fun H2 j2 g1 g2 d2 _ => ?_⟩
    refine ⟨fun m σ H' => ∃ (i : Nat) (st : Addr) (Ss : List V), m = n - i ∧ i ≤ n ∧ Jd K H0 a dx fs f cd tk gv ls lw n H' ∧ H' ls = some (.lst Ss) ∧ H' lw = some (.lst [.int (i : Nat)]) ∧ Ss.length = n + 1 ∧ Ss[i]? = some (.ref st) ∧ (∀ j, i < j → j ≤ n → Ss[j]? = some .non) ∧ Dp K H' (.ref st) dSt ∧ ∃ y, σ = [some (.ref a), y],
      ⟨n, 0, t, _, rfl, Nat.zero_le _, j2, g1, g2, by simp, by simp, fun j h1 h2 => ?_, d2, _, rfl⟩, ?_⟩
    · rw [List.getElem?_set_ne (by omega), List.getElem?_replicate, if_pos (by omega)]
    rintro m σ H3 ⟨i, st, Ss, rfl, hi, j3, k1, k2, k3, k4, k5, k6, y, rfl⟩
    refine ⟨_, rfl, a, _, dx, _, .ref lw, rfl, j3.at_, T.c_Judge, T.n_Judge_waiting, rfl, lw, _, rfl, .inl (sql_new k2), _, _, rfl, rfl, true, rfl, iteT ?_⟩
    have al : a ≠ lw := fun z => by have := j3.at_; rw [z, k2] at this; cases this
    have j4 : Jd K H0 a dx fs f cd tk gv ls lw n (upd H3 lw (.lst [])) := ⟨j3.s.upd_new j3.nw, j3.im, j3.na, j3.ns, j3.nw, j3.ne, by rw [upd_ne al]; exact j3.at_⟩
    have m1 : upd H3 lw (.lst []) ls = some (.lst Ss) := by rw [upd_ne j3.ne]; exact k1
    have d4 : Dp K (upd H3 lw (.lst [])) (.ref st) dSt := dst_lst k6 k2
    refine ⟨fun σ' H' => i < n ∧ ∃ (st : Addr) (Ss : List V), Jd K H0 a dx fs f cd tk gv ls lw n H' ∧ H' ls = some (.lst Ss) ∧ H' lw = some (.lst [.int ((i + 1 : Nat) : Int)]) ∧ Ss.length = n + 1 ∧ Ss[i + 1]? = some (.ref st) ∧ (∀ j, i + 1 < j → j ≤ n → Ss[j]? = some .non) ∧ Dp K H' (.ref st) dSt ∧ ∃ y, σ' = [some (.ref a), y],
      fun σ' H' h => ⟨n - (i + 1), by omega, i + 1, h.2.choose, h.2.choose_spec.choose, rfl, h.1, h.2.choose_spec.choose_spec⟩, ?_⟩
    refine ⟨_, rfl, a, _, dx, _, .ref lw, rfl, j3.at_, T.c_Judge, T.n_Judge_waiting, rfl, .inl ⟨rfl, _, sql_new k2⟩, lw, [.int (i : Nat)], .int (i : Nat), rfl, rfl, k2, rfl, ?_⟩
    refine ⟨_, rfl, a, dx, _, rfl, j4.at_, rfl, _, rfl, _, rfl, a, _, dx, _, .ref ls, rfl, j4.at_, T.c_Judge, T.n_Judge_sure, rfl, _, rfl, ls, _, i, .ref st, rfl, rfl, sql_new m1, atI_nat k4, ?_⟩
    refine ⟨H0, a, dx, fs, f, cd, tk, gv, ls, lw, n, i, st, Ss, rfl, j4, hi, m1, upd_same, k3, k5, d4, fun hlt H5 t5 j5 f1 f2 f3 => ?_, fun hin => ?_⟩
    · refine ⟨hlt, t5, _, j5, f1, f2, by rw [List.length_set]; exact k3, ?_, fun j h1 h2 => ?_, f3, _, rfl⟩
      · rw [List.getElem?_set_self (by omega)]
      · rw [List.getElem?_set_ne (by omega)]; exact k5 j (by omega) h2
    · subst hin
      exact fun H' d s5 hx => q H' d (j4.s.trans s5) hx
theorem ok_judge : FnOk P w K mg base (L2.CX P w) 13 (He.ga K "judge") T.d_judge ["image"] (spJg K) := by
  have G_Judge_run := ok_Jrun (P := P) (w := w) (base := base) T S
  have G_Judge___init__ := ok_Ji (P := P) (w := w) (base := base) T
  refine T.F_judge.ok sc_judge (fun vs H Q E h => ?_) (fun cdv A outer s H vs Q E hr h => ?_)
  · obtain ⟨p, fs, f, cd, tk, gv, n, rfl, _⟩ := h; rfl
  · obtain ⟨p, fs, f, cd, tk, gv, n, rfl, hp, im, q⟩ := h
    refine ⟨_, (pss_cons (ps_if (PW.pt (pw_or (pt_not (pt_chain op_le op_le (pe_gi (i := 4) rfl T.FEWEST_BOXES) (pe_ix (r := rIxT K) ix_tup (pv 0) pe_int (fun _ _ => rfl)) (pe_gi (i := 16) rfl T.MOST_BOXES))) (pw_or1 (pt_cmpR op_eq (pe_callB (r := rLenS K) call_len_seq (by rfl) T.len (by decide +kernel) (pa_cons (pe_ix (r := rIxT K) ix_tup (pv 0) pe_int (fun _ _ => rfl)) pa_nil)) pe_int (nomark _)))))
    (pss_one ps_dead)
    pss_nil)
    (pss_cons (ps_if (pt_cmpR op_ne (pe_ix (r := rIxT K) ix_tup (pe_ix (r := rIxT K) ix_tup (pe_ix (r := rIxT K) ix_tup (pv 0) pe_int (fun _ _ => rfl)) pe_int (fun _ _ => rfl)) pe_int (fun _ _ => rfl)) pe_int (nomark _))
    (pss_one ps_dead)
    pss_nil)
    (pss_one (ps_for (passes_of rfl) rfl (pi_range1 (by rfl) T.range (pa_cons (pe_callB (r := rLenS K) call_len_seq (by rfl) T.len (by decide +kernel) (pa_cons (pe_ix (r := rIxT K) ix_tup (pv 0) pe_int (fun _ _ => rfl)) pa_nil)) pa_nil)) (pg_name (i := 1) sc_judge.nd rfl (.inl rfl))
    (pss_one (ps_expr (R71.pe_methS0 (pe_make T.m_Judge G_Judge___init__ (hr.mono (by omega)) (by rfl) T.g_Judge T.b_Judge___init__ .nil pass0 (pa_cons (pv 0) (pa_cons (pv 1) pa_nil))) T.c_Judge T.mt_Judge_run G_Judge_run (hr.mono (by omega)) T.b_Judge_run (fun σ => passAt (takes_of rfl rfl rfl rfl) σ)))))))), ?_⟩
    obtain ⟨pl, hf⟩ := im.f_
    refine ⟨_, rfl, p, _, 0, .int 4, rfl, rfl, hp, rfl, _, _, rfl, rfl, true, rfl, iteT ⟨_, _, rfl, rfl, true, rfl, ?_⟩⟩
    refine ⟨_, rfl, p, _, 1, .ref fs, rfl, rfl, hp, rfl, fs, _, rfl, .inr im.fs_, rfl, false, rfl, iteF ?_⟩
    refine ⟨_, rfl, p, _, 1, .ref fs, rfl, rfl, hp, rfl, fs, _, 0, .ref f, rfl, rfl, im.fs_, rfl, f, _, 2, .int 0, rfl, rfl, hf, atI_nat (j := 2) rfl, rfl, false, rfl, iteF ?_⟩
    refine ⟨_, rfl, p, _, 1, .ref fs, rfl, rfl, hp, rfl, fs, _, rfl, .inr im.fs_, 1, rfl, by decide, by decide, ?_⟩
    refine for_it (walk_range (lo := 0) (n := 1)) (fun j σ H' => j = 0 ∧ H' = H ∧ ∃ y, σ = [some (.ref p), y]) ⟨rfl, rfl, _, rfl⟩ (fun _ _ _ _ _ => trivial) (fun j v σ H1 H2 hj2 hP hy => ?_) (fun σ H1 hP => absurd hP.1 (by decide))
    obtain ⟨rfl, rfl⟩ := hy
    obtain ⟨rfl, rfl, y, rfl⟩ := hP
    refine ⟨_, rfl, _, rfl, fun a dx ha hdx hne => ?_⟩
    have sm : Same H2 (hid a (upd (upd H2 dx (.own a)) a (.ins (He.ga K "Judge") dx []))) := fun b u hb => by
      have h1 : b ≠ a := fun z => by rw [z, ha] at hb; cases hb
      have h2 : b ≠ dx := fun z => by rw [z, hdx] at hb; cases hb
      rw [hid_at h1, upd_ne h1, upd_ne h2]; exact hb
    refine ⟨a, dx, p, fs, f, cd, tk, gv, n, rfl, upd_same, sm.sqt hp, im.same sm, fun H3 ls lw hj g1 g2 => ⟨rfl, ?_⟩⟩
    exact ⟨a, dx, _, rfl, hj.at_, rfl, _, a, dx, fs, f, cd, tk, gv, ls, lw, n, rfl, hj, g1, g2, fun H' d s2 hx => q H' d (sm.trans s2) hx⟩
end
end K71

set_option Elab.async false
set_option linter.all false
set_option maxRecDepth 100000
set_option maxHeartbeats 4000000
namespace K71
open PySem PySem.Spec PyProof.Rows L2
abbrev vi (ns : List Int) : List V := ns.map V.int
theorem vi_at {m : List Int} {j : Nat} {v : Int} (h : m[j]? = some v) : atI (vi m) ((j : Nat) : Int) = some (V.int v) := atI_nat (by rw [List.getElem?_map, h]; rfl)
theorem vi_len {xs : List Int} : (vi xs).length = xs.length := List.length_map _
def spCell (K : PySem.W.Frag) : Sp := fun vs H Q _ => ∃ (a : Addr) (ns : List Int) (k : Nat), vs = [.ref a, .int (k : Nat)] ∧ SqL K H a (vi ns) ∧ ∀ z : Int, Q (.int z) H
def spNums : Sp := fun vs H Q _ => ∃ c : Int, vs = [.int c, .int 24] ∧ ∀ (H' : Hp) (l : Addr) (ns : List Int), Same H H' → H l = none → H' l = some (.lst (vi ns)) → ns.length = 24 → Q (.ref l) H'
def PoolAt (H : Hp) (p c : Addr) (k : Nat) : Prop := ∃ (r : Addr) (ns : List Int), H p = some (.lst [.ref r, .ref c]) ∧ H r = some (.lst (vi ns)) ∧ H c = some (.lst [.int ((k : Nat) : Int)]) ∧ p ≠ c ∧ r ≠ c ∧ 1 ≤ ns.length ∧ ns.length ≤ 1000
def ButL (c : Addr) (H H' : Hp) : Prop := ∀ a o, a ≠ c → H a = some o → H' a = some o
def spPool (K : PySem.W.Frag) : Sp := fun vs H Q _ => ∃ (a : Addr) (ns : List Int), vs = [.ref a] ∧ SqL K H a (vi ns) ∧ ns.length ≤ 63 ∧ ∀ (H' : Hp) (p c : Addr), PoolAt H' p c 0 → Q (.ref p) H'
def spDraw : Sp := fun vs H Q _ => ∃ (p c : Addr) (k many : Nat), vs = [.ref p, .int ((many : Nat) : Int)] ∧ PoolAt H p c k ∧ k ≤ 5000 ∧ 1 ≤ many ∧ ∀ (H' : Hp) (r : Nat), r < many → ButL c H H' → PoolAt H' p c (k + 1) → Q (.int ((r : Nat) : Int)) H'
theorem fm_small {a : Int} {b : Int} (h : 0 < b) : 0 ≤ a.fmod b ∧ a.fmod b < b := by
  rw [Int.fmod_eq_emod_of_nonneg a (by omega)]
  exact ⟨Int.emod_nonneg a (by omega), Int.emod_lt_of_pos a h⟩
section
variable {P : Program} {w : World} {K : PySem.W.Frag} {mg : Str → Option Value} {base : Heap} (T : Txt K mg)
include T
theorem ok_cell : FnOk P w K mg base CX0 1 (He.ga K "_law_cell") T.d__law_cell ["script", "k"] (spCell K) := by
  refine T.F__law_cell.ok sc_law_cell (fun vs H Q E h => ?_) (fun cdv A outer s H vs Q E hr h => ?_)
  · obtain ⟨a, ns, k, rfl, _⟩ := h; rfl
  · obtain ⟨a, ns, k, rfl, ha, q⟩ := h
    refine ⟨_, PSs.nox (pss_cons (ps_if (pt_cmpR op_lt (pv 1) (pe_callB call_len_seq (by rfl) T.len (by decide +kernel) (pa_cons (pv 0) pa_nil)) (nomark _))
    (pss_one (ps_ret (pe_ix ix_list (pv 0) (pv 1) (fun _ _ => rfl))))
    pss_nil)
    (pss_one (ps_ret pe_int))), ?_⟩
    refine ⟨_, rfl, _, rfl, a, _, rfl, .inl ha, _, _, rfl, rfl, _, rfl, ?_⟩
    rw [vi_len]
    refine ite2 (fun h => ?_) (fun _ => ?_)
    · have h1 : k < ns.length := by have := of_decide_eq_true h; omega
      exact ⟨_, rfl, _, rfl, a, _, _, _, rfl, rfl, ha, vi_at (List.getElem?_eq_getElem h1), q _⟩
    · exact q _
theorem ok_nums : FnOk P w K mg base CX0 1 (He.ga K "_law_numbers") T.d__law_numbers ["cell", "many"] spNums := by
  refine T.F__law_numbers.ok sc_law_numbers (fun vs H Q E h => ?_) (fun cdv A outer s H vs Q E hr h => ?_)
  · obtain ⟨c, rfl, _⟩ := h; rfl
  · obtain ⟨c, rfl, q⟩ := h
    refine ⟨_, PSs.nox (pss_cons (ps_set (i := 2) sc_law_numbers.nd rfl (.inl rfl) (pe_lst pa_nil))
    (pss_cons (ps_set (i := 3) sc_law_numbers.nd rfl (.inl rfl) (pv 0))
    (pss_cons (ps_for PassesOwn.never rfl (pi_range1 (by rfl) T.range (pa_cons (pv 1) pa_nil)) (pg_name (i := 4) sc_law_numbers.nd rfl (.inl rfl))
    (pss_one (ps_if (PW.pt (pw_and (pt_cmpR op_ge (pv 0) (pe_op op_pow pe_int pe_int) (nomark _)) (pw_and1 (pt_cmpR op_gt (pv 3) pe_int (nomark _)))))
    (pss_cons (ps_expr (pe_bm PySem.F.plainAttrs_list PySem.F.slot_list_append PySem.F.type_list_append mt_append (pv 2) (pa_cons (pe_op op_modN (pe_callTy call_int1 (by rfl) T.int (by decide +kernel) (pa_cons (pv 3) pa_nil)) pe_int) pa_nil)))
    (pss_one (ps_set (i := 3) sc_law_numbers.nd rfl (.inl rfl) (pe_op op_fdivN (pv 3) pe_int))))
    (pss_cons (ps_set (i := 5) sc_law_numbers.nd rfl (.inl rfl) (pe_op op_modN (pe_callTy call_int1 (by rfl) T.int (by decide +kernel) (pa_cons (pe_op op_add (pe_op op_mul (pv 0) pe_int) (pe_op op_mul (pe_op op_add (pv 4) pe_int) pe_int)) pa_nil)) pe_int))
    (pss_cons (ps_set (i := 5) sc_law_numbers.nd rfl (.inl rfl) (pe_op op_modN (pe_callTy call_int1 (by rfl) T.int (by decide +kernel) (pa_cons (pe_op op_add (pe_op op_add (pe_op op_mul (pv 5) (pv 5)) (pe_op op_mul (pv 5) pe_int)) (pe_op op_mul (pv 4) pe_int)) pa_nil)) pe_int))
    (pss_cons (ps_set (i := 5) sc_law_numbers.nd rfl (.inl rfl) (pe_op op_modN (pe_callTy call_int1 (by rfl) T.int (by decide +kernel) (pa_cons (pe_op op_add (pe_op op_add (pe_op op_mul (pv 5) (pv 5)) (pv 0)) (pe_op op_mul pe_int (pv 4))) pa_nil)) pe_int))
    (pss_one (ps_expr (pe_bm PySem.F.plainAttrs_list PySem.F.slot_list_append PySem.F.type_list_append mt_append (pv 2) (pa_cons (pe_op op_modN (pe_op op_fdivN (pv 5) pe_int) pe_int) pa_nil))))))))))
    (pss_one (ps_ret (pv 2)))))), ?_⟩
    refine ⟨Nat.zero_le _, fun l hl => ?_⟩
    refine ⟨_, rfl, _, rfl, 24, rfl, by decide, by decide, ?_⟩
    refine for_range (lo := 0) (n := 24) (fun i σ H' => ∃ (left : Int) (x y : Option V) (ns : List Int), σ = [some (.int c), some (.int 24), some (.ref l), some (.int left), x, y] ∧ Same H H' ∧ H' l = some (.lst (vi ns)) ∧ ns.length = i)
      ⟨c, none, none, [], rfl, (Same.refl H).upd_new hl, upd_same, rfl⟩ ?_ ?_
    · rintro i σ H1 hi ⟨left, x, y, ns, rfl, s1, hl1, hn⟩
      have app : ∀ (v : Int) (σ : L2.St) (left : Int) (x y : Option V), σ = [some (.int c), some (.int 24), some (.ref l), some (.int left), x, y] →
          ∃ (left : Int) (x y : Option V) (ns' : List Int), σ = [some (.int c), some (.int 24), some (.ref l), some (.int left), x, y] ∧ Same H (upd H1 l (.lst (vi ns ++ [V.int v]))) ∧ (upd H1 l (.lst (vi ns ++ [V.int v]))) l = some (.lst (vi ns')) ∧ ns'.length = i + 1 := fun v σ left x y e =>
        ⟨left, x, y, ns ++ [v], e, s1.upd_new hl, by rw [upd_same]; unfold vi; rw [List.map_append]; rfl, by rw [List.length_append, hn]; rfl⟩
      have hsz : (vi ns).length < sizeLine := small1000 (by rw [vi_len]; omega)
      have other : ∀ (Q' : Prop), Q' → Q' := fun _ z => z
      have b1 : ∀ z : Int, z.fmod 2147483647 < 2 ^ 64 ∧ -(2 ^ 64) < z.fmod 2147483647 := fun z => by have := fm_small (a := z) (b := 2147483647) (by decide); omega
      have b2 : ∀ z : Int, z.fmod 2147483629 < 2 ^ 64 ∧ -(2 ^ 64) < z.fmod 2147483629 := fun z => by have := fm_small (a := z) (b := 2147483629) (by decide); omega
      refine ⟨_, rfl, _, _, rfl, rfl, ⟨by decide, by decide, by decide⟩, _, _, rfl, rfl, _, rfl, ?_⟩
      refine ite2 (fun _ => ⟨_, rfl, _, _, rfl, rfl, _, rfl, ite2 (fun _ => ?_) (fun _ => ?_)⟩) (fun _ => ?_)
      · refine ⟨_, rfl, .inl ⟨rfl, _, SqL.of hl1⟩, _, rfl, .inl ⟨_, rfl, _, _, rfl, rfl, (show (4099 : Int) ≠ 0 by decide), l, _, _, rfl, rfl, hl1, hsz, _, rfl, _, _, rfl, rfl, ⟨(show (4099 : Int) ≠ 0 by decide), (show (4099 : Int).natAbs < 1073741824 by decide)⟩, app _ _ _ _ _ rfl⟩⟩
      all_goals
        try refine iteF ?_
        refine ⟨_, rfl, _, _, rfl, rfl, .inr ⟨by decide, by decide⟩, _, rfl, _, _, rfl, rfl, _, _, rfl, rfl, .inr ⟨by decide, by decide⟩, _, _, rfl, rfl, .inl ⟨_, rfl, _, _, rfl, rfl, (show (2147483647 : Int) ≠ 0 by decide), ?_⟩⟩
        refine ⟨_, rfl, _, rfl, _, _, rfl, rfl, .inl ⟨(b1 _).2, (b1 _).1⟩, _, rfl, _, _, rfl, rfl, .inr ⟨by decide, by decide⟩, _, _, rfl, rfl, _, rfl, _, _, rfl, rfl, .inr ⟨by decide, by decide⟩, _, _, rfl, rfl, .inl ⟨_, rfl, _, _, rfl, rfl, (show (2147483629 : Int) ≠ 0 by decide), ?_⟩⟩
        refine ⟨_, rfl, _, rfl, _, _, rfl, rfl, .inl ⟨(b2 _).2, (b2 _).1⟩, _, rfl, _, _, rfl, rfl, _, rfl, _, _, rfl, rfl, .inl ⟨by decide, by decide⟩, _, _, rfl, rfl, .inl ⟨_, rfl, _, _, rfl, rfl, (show (2147483587 : Int) ≠ 0 by decide), ?_⟩⟩
        refine ⟨_, rfl, .inl ⟨rfl, _, SqL.of hl1⟩, _, rfl, _, _, rfl, rfl, ⟨(show (5 : Int) ≠ 0 by decide), (show (5 : Int).natAbs < 1073741824 by decide)⟩, _, _, rfl, rfl, (show (4099 : Int) ≠ 0 by decide), l, _, _, rfl, rfl, hl1, hsz, app _ _ _ _ _ rfl⟩
    · rintro σ H1 ⟨left, x, y, ns, rfl, s1, hl1, hn⟩
      exact ⟨_, rfl, q _ _ ns s1 hl hl1 hn⟩
theorem ok_pool : FnOk P w K mg base CX0 2 (He.ga K "_law_pool") T.d__law_pool ["script"] (spPool K) := by
  have G__law_numbers := ok_nums (P := P) (w := w) (base := base) T
  have G__law_cell := ok_cell (P := P) (w := w) (base := base) T
  refine T.F__law_pool.ok sc_law_pool (fun vs H Q E h => ?_) (fun cdv A outer s H vs Q E hr h => ?_)
  · obtain ⟨a, ns, rfl, _⟩ := h; rfl
  · obtain ⟨a, ns, rfl, ha, hlen, q⟩ := h
    refine ⟨_, PSs.nox (pss_cons (ps_set (i := 1) sc_law_pool.nd rfl (.inl rfl) (pe_lst pa_nil))
    (pss_cons (ps_for PassesOwn.never rfl (pi_range1 (by rfl) T.range (pa_cons (pe_callB (call_min2 rfl) (by rfl) T.min (by decide +kernel) (pa_cons pe_int (pa_cons (pe_callB (call_max2 rfl) (by rfl) T.max (by decide +kernel) (pa_cons pe_int (pa_cons (pe_callB call_len_seq (by rfl) T.len (by decide +kernel) (pa_cons (pv 0) pa_nil)) pa_nil))) pa_nil))) pa_nil)) (pg_name (i := 2) sc_law_pool.nd rfl (.inl rfl))
    (pss_one (ps_set (i := 1) sc_law_pool.nd rfl (.inl rfl) (pe_op op_cat (pv 1) (pe_call G__law_numbers hr (by rfl) T.g__law_numbers T.F__law_numbers.kp T.b__law_numbers .nil pass0 (pa_cons (pe_op op_add (pe_call G__law_cell hr (by rfl) T.g__law_cell T.F__law_cell.kp T.b__law_cell .nil pass0 (pa_cons (pv 0) (pa_cons (pv 2) pa_nil))) (pe_op op_mul pe_int (pv 2))) (pa_cons pe_int pa_nil)))))))
    (pss_one (ps_ret (pe_lst (pa_cons (pv 1) (pa_cons (pe_lst (pa_cons pe_int pa_nil)) pa_nil))))))), ?_⟩
    refine ⟨Nat.zero_le _, fun l0 hl0 => ?_⟩
    refine ⟨_, rfl, a, _, rfl, .inl (((Same.refl H).upd_new hl0).seq ha), _, _, rfl, _, _, rfl, ?_⟩
    have key : ∃ n : Nat, (if (if (((vi ns).length : Nat) : Int) > 1 then (((vi ns).length : Nat) : Int) else 1) < 6 then (if (((vi ns).length : Nat) : Int) > 1 then (((vi ns).length : Nat) : Int) else 1) else 6) = ((n : Nat) : Int) ∧ 1 ≤ n ∧ n ≤ 6 := by
      rw [vi_len]
      by_cases h1 : ((ns.length : Nat) : Int) > 1
      · rw [if_pos h1]
        by_cases h2 : ((ns.length : Nat) : Int) < 6
        · rw [if_pos h2]; exact ⟨ns.length, rfl, by omega, by omega⟩
        · rw [if_neg h2]; exact ⟨6, rfl, by omega, by omega⟩
      · rw [if_neg h1, if_pos (by omega)]; exact ⟨1, rfl, by omega, by omega⟩
    obtain ⟨n, en, hn1, hn2⟩ := key
    refine ⟨((n : Nat) : Int), congrArg (fun z => [V.int z]) en, by omega, by omega, ?_⟩
    refine for_range (lo := 0) (fun i σ H' => ∃ (l : Addr) (x : Option V) (zs : List Int), σ = [some (.ref a), some (.ref l), x] ∧ Same H H' ∧ H l = none ∧ H' l = some (.lst (vi zs)) ∧ zs.length = 24 * i)
      ⟨l0, none, [], rfl, (Same.refl H).upd_new hl0, hl0, upd_same, rfl⟩ ?_ ?_
    · rintro i σ H1 hi ⟨l, x, zs, rfl, s1, l00, hl1, hz⟩
      have hi6 : i < 6 := by omega
      refine ⟨_, rfl, _, rfl, _, rfl, a, ns, 0 + i, rfl, s1.seq ha, fun z => ?_⟩
      refine ⟨_, rfl, _, _, rfl, rfl, .inl ⟨by decide, by decide⟩, _, _, rfl, rfl, _, rfl, fun H2 l2 ms s2 hl20 hl2 hm => ?_⟩
      have hl12 := s2 _ _ hl1
      refine ⟨l, l2, _, _, rfl, rfl, hl12, hl2, Nat.le_of_lt (small1000 (by rw [vi_len, vi_len]; omega)), fun l3 hl3 => ?_⟩
      have s3 := (s1.trans s2)
      refine ⟨l3, _, zs ++ ms, rfl, s3.upd_new (s3.free hl3), s3.free hl3, ?_, ?_⟩
      · rw [upd_same]; unfold vi; rw [List.map_append]
      · rw [List.length_append]; omega
    · rintro σ H1 ⟨l, x, zs, rfl, s1, l00, hl1, hz⟩
      have en2 : ((n : Nat) : Int).toNat = n := rfl
      rw [en2] at hz
      refine ⟨_, rfl, by show 1 ≤ sizeLine; decide, fun c hc => ⟨by show 2 ≤ sizeLine; decide, fun p hp => ?_⟩⟩
      have nlc : l ≠ c := ne_of_none hl1 hc
      have npc : p ≠ c := fun z => by rw [z, upd_same] at hp; cases hp
      have nlp : l ≠ p := fun z => by rw [← z, upd_ne nlc, hl1] at hp; cases hp
      exact q _ p c ⟨l, zs, upd_same, by rw [upd_ne nlp, upd_ne nlc]; exact hl1, by rw [upd_ne npc.symm, upd_same]; rfl, npc, nlc, by omega, by omega⟩
theorem ok_draw : FnOk P w K mg base CX0 1 (He.ga K "_law_draw") T.d__law_draw ["pool", "many"] spDraw := by
  refine T.F__law_draw.ok sc_law_draw (fun vs H Q E h => ?_) (fun cdv A outer s H vs Q E hr h => ?_)
  · obtain ⟨p, c, k, many, rfl, _⟩ := h; rfl
  · obtain ⟨p, c, k, many, rfl, ⟨r, ns, hp, hr', hc, npc, nrc, hn1, hn2⟩, hk, hm, q⟩ := h
    refine ⟨_, PSs.nox (pss_cons (ps_set (i := 2) sc_law_draw.nd rfl (.inl rfl) (pe_ix ix_list (pe_ix ix_list (pv 0) pe_int (fun _ _ => rfl)) pe_int (fun _ _ => rfl)))
    (pss_cons (ps_asg (pe_op op_add (pv 2) pe_int) (pg_sub (pe_ix ix_list (pv 0) pe_int (fun _ _ => rfl)) pe_int set_list))
    (pss_cons (ps_set (i := 3) sc_law_draw.nd rfl (.inl rfl) (pe_op op_fdivN (pv 2) (pe_callB call_len_seq (by rfl) T.len (by decide +kernel) (pa_cons (pe_ix ix_list (pv 0) pe_int (fun _ _ => rfl)) pa_nil))))
    (pss_one (ps_ret (pe_op op_modN (pe_callTy call_int1 (by rfl) T.int (by decide +kernel) (pa_cons (pe_op op_add (pe_op op_add (pe_ix ix_list (pe_ix ix_list (pv 0) pe_int (fun _ _ => rfl)) (pe_op op_modN (pv 2) (pe_callB call_len_seq (by rfl) T.len (by decide +kernel) (pa_cons (pe_ix ix_list (pv 0) pe_int (fun _ _ => rfl)) pa_nil))) (fun _ _ => rfl)) (pe_op op_mul (pv 3) pe_int)) (pe_op op_mul (pe_op op_mul (pv 3) (pv 2)) pe_int)) pa_nil)) (pv 1))))))), ?_⟩
    refine ⟨_, rfl, p, _, _, _, rfl, rfl, SqL.of hp, atI_nat (j := 1) rfl, c, _, _, _, rfl, rfl, SqL.of hc, atI_nat (j := 0) rfl, ?_⟩
    refine ⟨_, rfl, _, _, rfl, rfl, _, rfl, p, _, _, _, rfl, rfl, SqL.of hp, atI_nat (j := 1) rfl, c, _, _, 0, rfl, rfl, hc, rfl, ?_⟩
    have hp1 : (upd H c (.lst [V.int (((k : Nat) : Int) + 1)])) p = some (.lst [.ref r, .ref c]) := by rw [upd_ne npc]; exact hp
    have hr1 : (upd H c (.lst [V.int (((k : Nat) : Int) + 1)])) r = some (.lst (vi ns)) := by rw [upd_ne nrc]; exact hr'
    have pool1 : PoolAt (upd H c (.lst [V.int (((k : Nat) : Int) + 1)])) p c (k + 1) := ⟨r, ns, hp1, hr1, upd_same, npc, nrc, hn1, hn2⟩
    have but1 : ButL c H (upd H c (.lst [V.int (((k : Nat) : Int) + 1)])) := fun a o n e => by rw [upd_ne n]; exact e
    have q' : ∀ z : Int, 0 ≤ z → z < ((many : Nat) : Int) → Q (.int z) (upd H c (.lst [V.int (((k : Nat) : Int) + 1)])) := fun z h1 h2 => by
      have e := q _ z.toNat (by omega) but1 pool1
      rwa [Int.toNat_of_nonneg h1] at e
    have nz : (((vi ns).length : Nat) : Int) ≠ 0 := by rw [vi_len]; omega
    have nb : (((vi ns).length : Nat) : Int).natAbs < 1073741824 := by rw [vi_len]; omega
    have hidx : k % ns.length < ns.length := Nat.mod_lt _ (by omega)
    have e0 : ((k : Nat) : Int).fmod (((vi ns).length : Nat) : Int) = ((k % ns.length : Nat) : Int) := by
      rw [Int.fmod_eq_emod_of_nonneg _ (by omega), vi_len]; rfl
    have a0 : atI (vi ns) (((k : Nat) : Int).fmod (((vi ns).length : Nat) : Int)) = some (V.int (ns[k % ns.length]'hidx)) := by
      rw [e0]; exact vi_at (List.getElem?_eq_getElem hidx)
    refine ⟨_, rfl, _, rfl, p, _, _, _, rfl, rfl, SqL.of hp1, atI_nat (j := 0) rfl, r, _, rfl, .inl (SqL.of hr1), _, _, rfl, rfl, ⟨nz, nb⟩, ?_⟩
    refine ⟨_, rfl, p, _, _, _, rfl, rfl, SqL.of hp1, atI_nat (j := 0) rfl, _, rfl, _, rfl, p, _, _, _, rfl, rfl, SqL.of hp1, atI_nat (j := 0) rfl, r, _, rfl, .inl (SqL.of hr1), _, _, rfl, rfl, nz, r, _, _, _, rfl, rfl, SqL.of hr1, a0, ?_⟩
    refine ⟨_, rfl, _, _, rfl, rfl, .inr ⟨by decide, by decide⟩, _, _, rfl, rfl, _, rfl, _, rfl, _, _, rfl, rfl, .inr ⟨by omega, by omega⟩, _, _, rfl, rfl, .inr ⟨by decide, by decide⟩, _, _, rfl, rfl, .inl ⟨_, rfl, _, rfl, _, _, rfl, rfl, (show ((many : Nat) : Int) ≠ 0 by omega), ?_⟩⟩
    exact q' _ (fm_small (by omega)).1 (fm_small (by omega)).2
end
end K71

set_option Elab.async false
set_option linter.all false
set_option maxRecDepth 100000
set_option maxHeartbeats 4000000
namespace K71
open PySem PySem.Spec PyProof.Rows L2
/-- a scalar of what was seen -/
def Sc (v : V) : Prop := (∃ i : Int, v = .int i) ∨ ∃ s : Str, v = .str s ∧ PyData.strOk s = true
def spKnS : Sp := fun vs H Q _ => ∃ v k, vs = [v] ∧ ((∃ i : Int, v = .int i) ∧ k = 2 ∨ (∃ s : Str, v = .str s) ∧ k = 3 ∨ (∃ (a : Addr) (xs : List V), v = .ref a ∧ H a = some (.lst xs)) ∧ k = 5) ∧ Q (.int k) H
def spEqS : Sp := fun vs H Q _ => ∃ v, vs = [v, v] ∧ Sc v ∧ Q (.bl true) H
def spEqL : Sp := fun vs H Q _ => ∃ (a b : Addr) (xs : List V), vs = [.ref a, .ref b] ∧ H a = some (.lst xs) ∧ H b = some (.lst xs) ∧ (∀ v ∈ xs, Sc v) ∧ xs.length ≤ 20 ∧ Q (.bl true) H
section
variable {P : Program} {w : World} {K : PySem.W.Frag} {mg : Str → Option Value} {base : Heap} (T : Txt K mg)
include T
theorem ok_kind : FnOk P w K mg base CX0 1 (He.ga K "_law_kind") T.d__law_kind ["x"] spKnS := by
  refine T.F__law_kind.ok sc_law_kind (fun vs H Q E h => ?_) (fun cdv A outer s H vs Q E hr h => ?_)
  · obtain ⟨v, k, rfl, _⟩ := h; rfl
  · obtain ⟨v, k, rfl, hv, q⟩ := h
    refine ⟨_, PSs.nox (pss_cons (ps_if (pt_val (pe_callB (r := rIsi K) call_isi (by rfl) T.isinstance (by decide +kernel) (pa_cons (pv 0) (pa_cons (pe_bltn (v := .ty "bool") rfl T.bool (by decide +kernel) rfl) pa_nil))))
    (pss_one (ps_ret pe_int))
    pss_nil)
    (pss_cons (ps_if (pt_val (pe_callB (r := rIsi K) call_isi (by rfl) T.isinstance (by decide +kernel) (pa_cons (pv 0) (pa_cons (pe_bltn (v := .ty "int") rfl T.int (by decide +kernel) rfl) pa_nil))))
    (pss_one (ps_ret pe_int))
    pss_nil)
    (pss_cons (ps_if (pt_val (pe_callB (r := rIsi K) call_isi (by rfl) T.isinstance (by decide +kernel) (pa_cons (pv 0) (pa_cons (pe_bltn (v := .ty "str") rfl T.str (by decide +kernel) rfl) pa_nil))))
    (pss_one (ps_ret pe_int))
    pss_nil)
    (pss_cons (ps_if (pt_val (pe_callB (r := rIsi K) call_isi (by rfl) T.isinstance (by decide +kernel) (pa_cons (pv 0) (pa_cons (pe_bltn (v := .ty "tuple") rfl T.tuple (by decide +kernel) rfl) pa_nil))))
    (pss_one (ps_ret pe_int))
    pss_nil)
    (pss_cons (ps_if (pt_val (pe_callB (r := rIsi K) call_isi (by rfl) T.isinstance (by decide +kernel) (pa_cons (pv 0) (pa_cons (pe_bltn (v := .ty "list") rfl T.list (by decide +kernel) rfl) pa_nil))))
    (pss_one (ps_ret pe_int))
    pss_nil)
    (pss_cons (ps_if (pt_cmpR op_isN (pv 0) pe_non (nomark _))
    (pss_one (ps_ret pe_int))
    pss_nil)
    (pss_one (ps_ret pe_int)))))))), ?_⟩
    rcases hv with ⟨⟨i, rfl⟩, rfl⟩ | ⟨⟨z, rfl⟩, rfl⟩ | ⟨⟨a, xs, rfl, ha⟩, rfl⟩
    · refine ⟨_, rfl, _, _, _, _, false, rfl, .ty _, .base (.int i), ki_bool (.int i), _, rfl, iteF ?_⟩
      exact ⟨_, rfl, _, _, _, _, true, rfl, .ty _, .base (.int i), ki_int (.int i), _, rfl, iteT q⟩
    · refine ⟨_, rfl, _, _, _, _, false, rfl, .ty _, .base (.str z), ki_bool (.str z), _, rfl, iteF ?_⟩
      refine ⟨_, rfl, _, _, _, _, false, rfl, .ty _, .base (.str z), ki_int (.str z), _, rfl, iteF ?_⟩
      exact ⟨_, rfl, _, _, _, _, true, rfl, .ty _, .base (.str z), ki_str (.str z), _, rfl, iteT q⟩
    · refine ⟨_, rfl, _, _, _, _, false, rfl, .ty _, .base (.lst ha), ki_bool (.list []), _, rfl, iteF ?_⟩
      refine ⟨_, rfl, _, _, _, _, false, rfl, .ty _, .base (.lst ha), ki_int (.list []), _, rfl, iteF ?_⟩
      refine ⟨_, rfl, _, _, _, _, false, rfl, .ty _, .base (.lst ha), ki_str (.list []), _, rfl, iteF ?_⟩
      refine ⟨_, rfl, _, _, _, _, false, rfl, .ty _, .base (.lst ha), ki_tup (.list []), _, rfl, iteF ?_⟩
      exact ⟨_, rfl, _, _, _, _, true, rfl, .ty _, .base (.lst ha), ki_lst (.list []), _, rfl, iteT q⟩
theorem ok_equalS : FnOk P w K mg base CX0 2 (He.ga K "_law_equal") T.d__law_equal ["x", "due"] spEqS := by
  have G__law_kind := ok_kind (P := P) (w := w) (base := base) T
  have G__law_equal : FnOk P w K mg base CX0 1 (He.ga K "_law_equal") T.d__law_equal ["x", "due"] (fun _ _ _ _ => False) := by
    refine T.F__law_equal.ok sc_law_equal (fun vs H Q E h => h.elim) (fun cdv A outer s H vs Q E hr h => h.elim)
  refine T.F__law_equal.ok sc_law_equal (fun vs H Q E h => ?_) (fun cdv A outer s H vs Q E hr h => ?_)
  · obtain ⟨v, rfl, _⟩ := h; rfl
  · obtain ⟨v, rfl, hv, q⟩ := h
    refine ⟨_, PSs.nox (pss_cons (ps_if (PW.pt (pw_or (pt_cmpR op_ne (pe_call G__law_kind (hr.mono (by omega)) (by rfl) T.g__law_kind T.F__law_kind.kp T.b__law_kind .nil pass0 (pa_cons (pv 0) pa_nil)) (pe_call G__law_kind (hr.mono (by omega)) (by rfl) T.g__law_kind T.F__law_kind.kp T.b__law_kind .nil pass0 (pa_cons (pv 1) pa_nil)) (nomark _)) (pw_or1 (pt_cmpR op_eq (pe_call G__law_kind (hr.mono (by omega)) (by rfl) T.g__law_kind T.F__law_kind.kp T.b__law_kind .nil pass0 (pa_cons (pv 0) pa_nil)) pe_int (nomark _)))))
    (pss_one (ps_ret pe_bl))
    pss_nil)
    (pss_cons (ps_if (PW.pt (pw_or (pt_val (pe_callB (r := rIsi K) call_isi (by rfl) T.isinstance (by decide +kernel) (pa_cons (pv 1) (pa_cons (pe_bltn (v := .ty "tuple") rfl T.tuple (by decide +kernel) rfl) pa_nil)))) (pw_or1 (pt_val (pe_callB (r := rIsi K) call_isi (by rfl) T.isinstance (by decide +kernel) (pa_cons (pv 1) (pa_cons (pe_bltn (v := .ty "list") rfl T.list (by decide +kernel) rfl) pa_nil)))))))
    (pss_cons (ps_if (pt_cmpR op_ne (pe_callB (r := rLenS K) call_len_seq (by rfl) T.len (by decide +kernel) (pa_cons (pv 0) pa_nil)) (pe_callB (r := rLenS K) call_len_seq (by rfl) T.len (by decide +kernel) (pa_cons (pv 1) pa_nil)) (nomark _))
    (pss_one (ps_ret pe_bl))
    pss_nil)
    (pss_cons (ps_for PassesOwn.never rfl (pi_range1 (by rfl) T.range (pa_cons (pe_callB (r := rLenS K) call_len_seq (by rfl) T.len (by decide +kernel) (pa_cons (pv 1) pa_nil)) pa_nil)) (pg_name (i := 2) sc_law_equal.nd rfl (.inl rfl))
    (pss_one (ps_if (pt_not (pt_val (pe_call G__law_equal (hr.mono (by omega)) (by rfl) T.g__law_equal T.F__law_equal.kp T.b__law_equal .nil pass0 (pa_cons (pe_ix (r := rIxL K) ix_list (pv 0) (pv 2) (fun _ _ => rfl)) (pa_cons (pe_ix (r := rIxL K) ix_list (pv 1) (pv 2) (fun _ _ => rfl)) pa_nil)))))
    (pss_one (ps_ret pe_bl))
    pss_nil)))
    (pss_one (ps_ret pe_bl))))
    pss_nil)
    (pss_one (ps_ret (pe_cmpR (r := rEqM K) (op_eqM hr.units) (pv 0) (pv 1) (nomark _)))))), ?_⟩
    rcases hv with ⟨i, rfl⟩ | ⟨z, rfl, hz⟩
    · refine ⟨_, rfl, _, 2, rfl, .inl ⟨⟨i, rfl⟩, rfl⟩, _, rfl, _, 2, rfl, .inl ⟨⟨i, rfl⟩, rfl⟩, rfl, false, rfl, iteF ?_⟩
      refine ⟨_, rfl, _, 2, rfl, .inl ⟨⟨i, rfl⟩, rfl⟩, rfl, false, rfl, iteF ?_⟩
      refine ⟨_, rfl, _, _, _, _, false, rfl, .ty _, .base (.int i), ki_tup (.int i), _, rfl, iteF ?_⟩
      refine ⟨_, rfl, _, _, _, _, false, rfl, .ty _, .base (.int i), ki_lst (.int i), _, rfl, iteF ?_⟩
      refine ⟨_, rfl, _, rfl, .int i, .int i, .int i, .int i, by simp [PyData.canLay0], by simp [PyData.canLay0], by simp [PyData.depth], ?_⟩
      have e : PyData.eqv (.int i) (.int i) = true := by rw [PyData.eqv]; simp
      rw [e]; exact q
    · refine ⟨_, rfl, _, 3, rfl, .inr (.inl ⟨⟨z, rfl⟩, rfl⟩), _, rfl, _, 3, rfl, .inr (.inl ⟨⟨z, rfl⟩, rfl⟩), rfl, false, rfl, iteF ?_⟩
      refine ⟨_, rfl, _, 3, rfl, .inr (.inl ⟨⟨z, rfl⟩, rfl⟩), rfl, false, rfl, iteF ?_⟩
      refine ⟨_, rfl, _, _, _, _, false, rfl, .ty _, .base (.str z), ki_tup (.str z), _, rfl, iteF ?_⟩
      refine ⟨_, rfl, _, _, _, _, false, rfl, .ty _, .base (.str z), ki_lst (.str z), _, rfl, iteF ?_⟩
      refine ⟨_, rfl, _, rfl, .str z, .str z, .str z, .str z, by simp [PyData.canLay0, hz], by simp [PyData.canLay0, hz], by simp [PyData.depth], ?_⟩
      have e : PyData.eqv (.str z) (.str z) = true := by rw [PyData.eqv]; simp
      rw [e]; exact q
theorem ok_equal : FnOk P w K mg base CX0 3 (He.ga K "_law_equal") T.d__law_equal ["x", "due"] spEqL := by
  have G__law_kind := ok_kind (P := P) (w := w) (base := base) T
  have G__law_equal := ok_equalS (P := P) (w := w) (base := base) T
  refine T.F__law_equal.ok sc_law_equal (fun vs H Q E h => ?_) (fun cdv A outer s H vs Q E hr h => ?_)
  · obtain ⟨a, b, xs, rfl, _⟩ := h; rfl
  · obtain ⟨a, b, xs, rfl, ha, hb, hs, hl, q⟩ := h
    refine ⟨_, PSs.nox (pss_cons (ps_if (PW.pt (pw_or (pt_cmpR op_ne (pe_call G__law_kind (hr.mono (by omega)) (by rfl) T.g__law_kind T.F__law_kind.kp T.b__law_kind .nil pass0 (pa_cons (pv 0) pa_nil)) (pe_call G__law_kind (hr.mono (by omega)) (by rfl) T.g__law_kind T.F__law_kind.kp T.b__law_kind .nil pass0 (pa_cons (pv 1) pa_nil)) (nomark _)) (pw_or1 (pt_cmpR op_eq (pe_call G__law_kind (hr.mono (by omega)) (by rfl) T.g__law_kind T.F__law_kind.kp T.b__law_kind .nil pass0 (pa_cons (pv 0) pa_nil)) pe_int (nomark _)))))
    (pss_one (ps_ret pe_bl))
    pss_nil)
    (pss_cons (ps_if (PW.pt (pw_or (pt_val (pe_callB (r := rIsi K) call_isi (by rfl) T.isinstance (by decide +kernel) (pa_cons (pv 1) (pa_cons (pe_bltn (v := .ty "tuple") rfl T.tuple (by decide +kernel) rfl) pa_nil)))) (pw_or1 (pt_val (pe_callB (r := rIsi K) call_isi (by rfl) T.isinstance (by decide +kernel) (pa_cons (pv 1) (pa_cons (pe_bltn (v := .ty "list") rfl T.list (by decide +kernel) rfl) pa_nil)))))))
    (pss_cons (ps_if (pt_cmpR op_ne (pe_callB (r := rLenS K) call_len_seq (by rfl) T.len (by decide +kernel) (pa_cons (pv 0) pa_nil)) (pe_callB (r := rLenS K) call_len_seq (by rfl) T.len (by decide +kernel) (pa_cons (pv 1) pa_nil)) (nomark _))
    (pss_one (ps_ret pe_bl))
    pss_nil)
    (pss_cons (ps_for PassesOwn.never rfl (pi_range1 (by rfl) T.range (pa_cons (pe_callB (r := rLenS K) call_len_seq (by rfl) T.len (by decide +kernel) (pa_cons (pv 1) pa_nil)) pa_nil)) (pg_name (i := 2) sc_law_equal.nd rfl (.inl rfl))
    (pss_one (ps_if (pt_not (pt_val (pe_call G__law_equal (hr.mono (by omega)) (by rfl) T.g__law_equal T.F__law_equal.kp T.b__law_equal .nil pass0 (pa_cons (pe_ix (r := rIxL K) ix_list (pv 0) (pv 2) (fun _ _ => rfl)) (pa_cons (pe_ix (r := rIxL K) ix_list (pv 1) (pv 2) (fun _ _ => rfl)) pa_nil)))))
    (pss_one (ps_ret pe_bl))
    pss_nil)))
    (pss_one (ps_ret pe_bl))))
    pss_nil)
    (pss_one (ps_ret (pe_cmpR (r := rEqM K) (op_eqM hr.units) (pv 0) (pv 1) (nomark _)))))), ?_⟩
    refine ⟨_, rfl, _, 5, rfl, .inr (.inr ⟨⟨a, xs, rfl, ha⟩, rfl⟩), _, rfl, _, 5, rfl, .inr (.inr ⟨⟨b, xs, rfl, hb⟩, rfl⟩), rfl, false, rfl, iteF ?_⟩
    refine ⟨_, rfl, _, 5, rfl, .inr (.inr ⟨⟨a, xs, rfl, ha⟩, rfl⟩), rfl, false, rfl, iteF ?_⟩
    refine ⟨_, rfl, _, _, _, _, false, rfl, .ty _, .base (.lst hb), ki_tup (.list []), _, rfl, iteF ?_⟩
    refine ⟨_, rfl, _, _, _, _, true, rfl, .ty _, .base (.lst hb), ki_lst (.list []), _, rfl, iteT ?_⟩
    refine ⟨_, rfl, a, _, rfl, .inl (SqL.of ha), _, rfl, b, _, rfl, .inl (SqL.of hb), rfl, _, rfl, iteNS rfl ?_⟩
    refine ⟨_, rfl, b, _, rfl, .inl (SqL.of hb), _, rfl, by omega, by omega, ?_⟩
    refine for_range (lo := 0) (fun i σ H' => ∃ x, σ = [some (.ref a), some (.ref b), x] ∧ H' = H) ⟨none, rfl, rfl⟩ ?_ ?_
    · rintro i σ H' hi ⟨x, rfl, rfl⟩
      have hi' : i < xs.length := by simpa using hi
      have ei : (0 : Int) + (i : Nat) = ((i : Nat) : Int) := by omega
      have a1 : atI xs ((0 : Int) + (i : Nat)) = some xs[i] := by rw [ei]; exact atI_nat (List.getElem?_eq_getElem hi')
      exact ⟨_, rfl, _, rfl, a, _, _, _, rfl, rfl, SqL.of ha, a1, _, rfl, _, rfl, b, _, _, _, rfl, rfl, SqL.of hb, a1, _, rfl, hs _ (List.getElem_mem hi'), _, rfl, iteF ⟨_, rfl, rfl⟩⟩
    · rintro σ H' ⟨x, rfl, rfl⟩
      exact q
end
end K71

set_option Elab.async false
set_option linter.all false
set_option maxRecDepth 100000
set_option maxHeartbeats 4000000
namespace K71
open PySem PySem.Spec PyProof.Rows L2
def spKf (K : PySem.W.Frag) : (Addr × Obj) → Sp := fun p vs H Q _ => ∃ (D : Str) (d : Option Addr), D ∈ allX ∧ vs = [.ref p.1] ∧ KS.ErrAt p.1 (He.ga K D) d p.2 H ∧ ∀ H' l, Same H H' → H' l = some (.lst [.str D]) → Q (.ref l) H'
theorem errS {a D : Addr} {d : Option Addr} {oe : Obj} {H H' : Hp} (h : KS.ErrAt a D d oe H) (s : Same H H') : KS.ErrAt a D d oe H' := ⟨h.1, h.2.1, fun dd e => let ⟨fs, q⟩ := h.2.2 dd e; ⟨fs, s _ _ q⟩⟩
theorem some_bl {b c : Bool} {o : Option Bool} (h : o = some b) (e : b = c) : o = some c := e ▸ h
section
variable {P : Program} {w : World} {K : PySem.W.Frag} {mg : Str → Option Value} {base : Heap} (T : Txt K mg) (S : Ext P w K mg)
include T S
theorem ok_kinds : KS.FnP P w K mg base CX0 1 (He.ga K "_law_kinds_of") T.d__law_kinds_of ["e"] (spKf K) := by
  refine T.F__law_kinds_of.okP sc_law_kinds_of (fun p vs H Q E h => ?_) (fun cdv A outer s H vs Q E p hr h => ?_)
  · obtain ⟨D, d, hD, rfl, _⟩ := h; rfl
  · obtain ⟨D, d, hD, rfl, he, q⟩ := h
    refine ⟨_, PSs.nox (pss_cons (ps_set (i := 1) sc_law_kinds_of.nd rfl (.inl rfl) (pe_lst pa_nil))
    (pss_cons (ps_if (pt_val (pe_callB (r := fun xs H Q => KS.ErrAt p.1 (He.ga K D) d p.2 H ∧ rIsE K (He.ga K D) p.1 xs H Q) (KS.call_isP (S.ec D hD) List.mem_cons_self) (by rfl) T.isinstance (by decide +kernel) (pa_cons (pv 0) (pa_cons (pe_gt rfl T.g_BadImage) pa_nil))))
    (pss_one (ps_expr (pe_bm PySem.F.plainAttrs_list PySem.F.slot_list_append PySem.F.type_list_append mt_append (pv 1) (pa_cons pe_str pa_nil))))
    pss_nil)
    (pss_cons (ps_if (pt_val (pe_callB (r := fun xs H Q => KS.ErrAt p.1 (He.ga K D) d p.2 H ∧ rIsE K (He.ga K D) p.1 xs H Q) (KS.call_isP (S.ec D hD) List.mem_cons_self) (by rfl) T.isinstance (by decide +kernel) (pa_cons (pv 0) (pa_cons (pe_gt rfl T.g_BadLine) pa_nil))))
    (pss_one (ps_expr (pe_bm PySem.F.plainAttrs_list PySem.F.slot_list_append PySem.F.type_list_append mt_append (pv 1) (pa_cons pe_str pa_nil))))
    pss_nil)
    (pss_cons (ps_if (pt_val (pe_callB (r := fun xs H Q => KS.ErrAt p.1 (He.ga K D) d p.2 H ∧ rIsE K (He.ga K D) p.1 xs H Q) (KS.call_isP (S.ec D hD) List.mem_cons_self) (by rfl) T.isinstance (by decide +kernel) (pa_cons (pv 0) (pa_cons (pe_gt rfl T.g_NoFunction) pa_nil))))
    (pss_one (ps_expr (pe_bm PySem.F.plainAttrs_list PySem.F.slot_list_append PySem.F.type_list_append mt_append (pv 1) (pa_cons pe_str pa_nil))))
    pss_nil)
    (pss_cons (ps_if (pt_val (pe_callB (r := fun xs H Q => KS.ErrAt p.1 (He.ga K D) d p.2 H ∧ rIsE K (He.ga K D) p.1 xs H Q) (KS.call_isP (S.ec D hD) List.mem_cons_self) (by rfl) T.isinstance (by decide +kernel) (pa_cons (pv 0) (pa_cons (pe_gt rfl T.g_NotTaken) pa_nil))))
    (pss_one (ps_expr (pe_bm PySem.F.plainAttrs_list PySem.F.slot_list_append PySem.F.type_list_append mt_append (pv 1) (pa_cons pe_str pa_nil))))
    pss_nil)
    (pss_cons (ps_if (pt_val (pe_callB (r := fun xs H Q => KS.ErrAt p.1 (He.ga K D) d p.2 H ∧ rIsE K (He.ga K D) p.1 xs H Q) (KS.call_isP (S.ec D hD) List.mem_cons_self) (by rfl) T.isinstance (by decide +kernel) (pa_cons (pv 0) (pa_cons (pe_gt rfl T.g_NoUnit) pa_nil))))
    (pss_one (ps_expr (pe_bm PySem.F.plainAttrs_list PySem.F.slot_list_append PySem.F.type_list_append mt_append (pv 1) (pa_cons pe_str pa_nil))))
    pss_nil)
    (pss_cons (ps_if (pt_val (pe_callB (r := fun xs H Q => KS.ErrAt p.1 (He.ga K D) d p.2 H ∧ rIsE K (He.ga K D) p.1 xs H Q) (KS.call_isP (S.ec D hD) List.mem_cons_self) (by rfl) T.isinstance (by decide +kernel) (pa_cons (pv 0) (pa_cons (pe_gt rfl T.g_OtherShape) pa_nil))))
    (pss_one (ps_expr (pe_bm PySem.F.plainAttrs_list PySem.F.slot_list_append PySem.F.type_list_append mt_append (pv 1) (pa_cons pe_str pa_nil))))
    pss_nil)
    (pss_cons (ps_if (pt_val (pe_callB (r := fun xs H Q => KS.ErrAt p.1 (He.ga K D) d p.2 H ∧ rIsE K (He.ga K D) p.1 xs H Q) (KS.call_isP (S.ec D hD) List.mem_cons_self) (by rfl) T.isinstance (by decide +kernel) (pa_cons (pv 0) (pa_cons (pe_gt rfl T.g_Refused) pa_nil))))
    (pss_one (ps_expr (pe_bm PySem.F.plainAttrs_list PySem.F.slot_list_append PySem.F.type_list_append mt_append (pv 1) (pa_cons pe_str pa_nil))))
    pss_nil)
    (pss_cons (ps_if (pt_val (pe_callB (r := fun xs H Q => KS.ErrAt p.1 (He.ga K D) d p.2 H ∧ rIsE K (He.ga K D) p.1 xs H Q) (KS.call_isP (S.ec D hD) List.mem_cons_self) (by rfl) T.isinstance (by decide +kernel) (pa_cons (pv 0) (pa_cons (pe_gt rfl T.g_Twice) pa_nil))))
    (pss_one (ps_expr (pe_bm PySem.F.plainAttrs_list PySem.F.slot_list_append PySem.F.type_list_append mt_append (pv 1) (pa_cons pe_str pa_nil))))
    pss_nil)
    (pss_cons (ps_if (pt_not (pt_val (pe_callB (r := fun xs H Q => KS.ErrAt p.1 (He.ga K D) d p.2 H ∧ rIsE K (He.ga K D) p.1 xs H Q) (KS.call_isP (S.ec D hD) List.mem_cons_self) (by rfl) T.isinstance (by decide +kernel) (pa_cons (pv 0) (pa_cons (pe_bltn (v := .ty "ValueError") rfl T.ValueError (by decide +kernel) rfl) pa_nil)))))
    (pss_one (ps_expr (pe_bm PySem.F.plainAttrs_list PySem.F.slot_list_append PySem.F.type_list_append mt_append (pv 1) (pa_cons pe_str pa_nil))))
    pss_nil)
    (pss_one (ps_ret (pv 1))))))))))))), ?_⟩
    refine ⟨Nat.zero_le _, fun l hl => ?_⟩
    have s0 := Same.one (o := .lst []) hl
    have hD' := hD
    simp only [allX, List.mem_cons, List.not_mem_nil, or_false] at hD'
    rcases hD' with rfl | rfl | rfl | rfl | rfl | rfl | rfl | rfl
    · refine ⟨_, rfl, errS he s0, _, _, true, rfl, fun _ h => h, some_bl (S.ki "BadImage" (by simp [allX]) "BadImage" (by simp [allX])) (by decide +kernel), _, rfl, iteT ?_⟩
      refine ⟨_, rfl, .inl ⟨rfl, _, SqL.of upd_same⟩, l, [], .str "BadImage", rfl, rfl, upd_same, by decide, ?_⟩
      have s1 : Same H (upd (upd H l (.lst [])) l (.lst [.str "BadImage"])) := s0.upd_new hl
      refine ⟨_, rfl, errS he s1, _, _, false, rfl, fun _ h => h, some_bl (S.ki "BadImage" (by simp [allX]) "BadLine" (by simp [allX])) (by decide +kernel), _, rfl, iteF ?_⟩
      refine ⟨_, rfl, errS he s1, _, _, false, rfl, fun _ h => h, some_bl (S.ki "BadImage" (by simp [allX]) "NoFunction" (by simp [allX])) (by decide +kernel), _, rfl, iteF ?_⟩
      refine ⟨_, rfl, errS he s1, _, _, false, rfl, fun _ h => h, some_bl (S.ki "BadImage" (by simp [allX]) "NotTaken" (by simp [allX])) (by decide +kernel), _, rfl, iteF ?_⟩
      refine ⟨_, rfl, errS he s1, _, _, false, rfl, fun _ h => h, some_bl (S.ki "BadImage" (by simp [allX]) "NoUnit" (by simp [allX])) (by decide +kernel), _, rfl, iteF ?_⟩
      refine ⟨_, rfl, errS he s1, _, _, false, rfl, fun _ h => h, some_bl (S.ki "BadImage" (by simp [allX]) "OtherShape" (by simp [allX])) (by decide +kernel), _, rfl, iteF ?_⟩
      refine ⟨_, rfl, errS he s1, _, _, false, rfl, fun _ h => h, some_bl (S.ki "BadImage" (by simp [allX]) "Refused" (by simp [allX])) (by decide +kernel), _, rfl, iteF ?_⟩
      refine ⟨_, rfl, errS he s1, _, _, false, rfl, fun _ h => h, some_bl (S.ki "BadImage" (by simp [allX]) "Twice" (by simp [allX])) (by decide +kernel), _, rfl, iteF ?_⟩
      refine ⟨_, rfl, errS he s1, _, _, true, rfl, fun _ h => h, S.kv "BadImage" (by simp [allX]), _, rfl, iteF ?_⟩
      exact ⟨_, rfl, q _ l s1 upd_same⟩
    · refine ⟨_, rfl, errS he s0, _, _, false, rfl, fun _ h => h, some_bl (S.ki "BadLine" (by simp [allX]) "BadImage" (by simp [allX])) (by decide +kernel), _, rfl, iteF ?_⟩
      refine ⟨_, rfl, errS he s0, _, _, true, rfl, fun _ h => h, some_bl (S.ki "BadLine" (by simp [allX]) "BadLine" (by simp [allX])) (by decide +kernel), _, rfl, iteT ?_⟩
      refine ⟨_, rfl, .inl ⟨rfl, _, SqL.of upd_same⟩, l, [], .str "BadLine", rfl, rfl, upd_same, by decide, ?_⟩
      have s1 : Same H (upd (upd H l (.lst [])) l (.lst [.str "BadLine"])) := s0.upd_new hl
      refine ⟨_, rfl, errS he s1, _, _, false, rfl, fun _ h => h, some_bl (S.ki "BadLine" (by simp [allX]) "NoFunction" (by simp [allX])) (by decide +kernel), _, rfl, iteF ?_⟩
      refine ⟨_, rfl, errS he s1, _, _, false, rfl, fun _ h => h, some_bl (S.ki "BadLine" (by simp [allX]) "NotTaken" (by simp [allX])) (by decide +kernel), _, rfl, iteF ?_⟩
      refine ⟨_, rfl, errS he s1, _, _, false, rfl, fun _ h => h, some_bl (S.ki "BadLine" (by simp [allX]) "NoUnit" (by simp [allX])) (by decide +kernel), _, rfl, iteF ?_⟩
      refine ⟨_, rfl, errS he s1, _, _, false, rfl, fun _ h => h, some_bl (S.ki "BadLine" (by simp [allX]) "OtherShape" (by simp [allX])) (by decide +kernel), _, rfl, iteF ?_⟩
      refine ⟨_, rfl, errS he s1, _, _, false, rfl, fun _ h => h, some_bl (S.ki "BadLine" (by simp [allX]) "Refused" (by simp [allX])) (by decide +kernel), _, rfl, iteF ?_⟩
      refine ⟨_, rfl, errS he s1, _, _, false, rfl, fun _ h => h, some_bl (S.ki "BadLine" (by simp [allX]) "Twice" (by simp [allX])) (by decide +kernel), _, rfl, iteF ?_⟩
      refine ⟨_, rfl, errS he s1, _, _, true, rfl, fun _ h => h, S.kv "BadLine" (by simp [allX]), _, rfl, iteF ?_⟩
      exact ⟨_, rfl, q _ l s1 upd_same⟩
    · refine ⟨_, rfl, errS he s0, _, _, false, rfl, fun _ h => h, some_bl (S.ki "NoFunction" (by simp [allX]) "BadImage" (by simp [allX])) (by decide +kernel), _, rfl, iteF ?_⟩
      refine ⟨_, rfl, errS he s0, _, _, false, rfl, fun _ h => h, some_bl (S.ki "NoFunction" (by simp [allX]) "BadLine" (by simp [allX])) (by decide +kernel), _, rfl, iteF ?_⟩
      refine ⟨_, rfl, errS he s0, _, _, true, rfl, fun _ h => h, some_bl (S.ki "NoFunction" (by simp [allX]) "NoFunction" (by simp [allX])) (by decide +kernel), _, rfl, iteT ?_⟩
      refine ⟨_, rfl, .inl ⟨rfl, _, SqL.of upd_same⟩, l, [], .str "NoFunction", rfl, rfl, upd_same, by decide, ?_⟩
      have s1 : Same H (upd (upd H l (.lst [])) l (.lst [.str "NoFunction"])) := s0.upd_new hl
      refine ⟨_, rfl, errS he s1, _, _, false, rfl, fun _ h => h, some_bl (S.ki "NoFunction" (by simp [allX]) "NotTaken" (by simp [allX])) (by decide +kernel), _, rfl, iteF ?_⟩
      refine ⟨_, rfl, errS he s1, _, _, false, rfl, fun _ h => h, some_bl (S.ki "NoFunction" (by simp [allX]) "NoUnit" (by simp [allX])) (by decide +kernel), _, rfl, iteF ?_⟩
      refine ⟨_, rfl, errS he s1, _, _, false, rfl, fun _ h => h, some_bl (S.ki "NoFunction" (by simp [allX]) "OtherShape" (by simp [allX])) (by decide +kernel), _, rfl, iteF ?_⟩
      refine ⟨_, rfl, errS he s1, _, _, false, rfl, fun _ h => h, some_bl (S.ki "NoFunction" (by simp [allX]) "Refused" (by simp [allX])) (by decide +kernel), _, rfl, iteF ?_⟩
      refine ⟨_, rfl, errS he s1, _, _, false, rfl, fun _ h => h, some_bl (S.ki "NoFunction" (by simp [allX]) "Twice" (by simp [allX])) (by decide +kernel), _, rfl, iteF ?_⟩
      refine ⟨_, rfl, errS he s1, _, _, true, rfl, fun _ h => h, S.kv "NoFunction" (by simp [allX]), _, rfl, iteF ?_⟩
      exact ⟨_, rfl, q _ l s1 upd_same⟩
    · refine ⟨_, rfl, errS he s0, _, _, false, rfl, fun _ h => h, some_bl (S.ki "NotTaken" (by simp [allX]) "BadImage" (by simp [allX])) (by decide +kernel), _, rfl, iteF ?_⟩
      refine ⟨_, rfl, errS he s0, _, _, false, rfl, fun _ h => h, some_bl (S.ki "NotTaken" (by simp [allX]) "BadLine" (by simp [allX])) (by decide +kernel), _, rfl, iteF ?_⟩
      refine ⟨_, rfl, errS he s0, _, _, false, rfl, fun _ h => h, some_bl (S.ki "NotTaken" (by simp [allX]) "NoFunction" (by simp [allX])) (by decide +kernel), _, rfl, iteF ?_⟩
      refine ⟨_, rfl, errS he s0, _, _, true, rfl, fun _ h => h, some_bl (S.ki "NotTaken" (by simp [allX]) "NotTaken" (by simp [allX])) (by decide +kernel), _, rfl, iteT ?_⟩
      refine ⟨_, rfl, .inl ⟨rfl, _, SqL.of upd_same⟩, l, [], .str "NotTaken", rfl, rfl, upd_same, by decide, ?_⟩
      have s1 : Same H (upd (upd H l (.lst [])) l (.lst [.str "NotTaken"])) := s0.upd_new hl
      refine ⟨_, rfl, errS he s1, _, _, false, rfl, fun _ h => h, some_bl (S.ki "NotTaken" (by simp [allX]) "NoUnit" (by simp [allX])) (by decide +kernel), _, rfl, iteF ?_⟩
      refine ⟨_, rfl, errS he s1, _, _, false, rfl, fun _ h => h, some_bl (S.ki "NotTaken" (by simp [allX]) "OtherShape" (by simp [allX])) (by decide +kernel), _, rfl, iteF ?_⟩
      refine ⟨_, rfl, errS he s1, _, _, false, rfl, fun _ h => h, some_bl (S.ki "NotTaken" (by simp [allX]) "Refused" (by simp [allX])) (by decide +kernel), _, rfl, iteF ?_⟩
      refine ⟨_, rfl, errS he s1, _, _, false, rfl, fun _ h => h, some_bl (S.ki "NotTaken" (by simp [allX]) "Twice" (by simp [allX])) (by decide +kernel), _, rfl, iteF ?_⟩
      refine ⟨_, rfl, errS he s1, _, _, true, rfl, fun _ h => h, S.kv "NotTaken" (by simp [allX]), _, rfl, iteF ?_⟩
      exact ⟨_, rfl, q _ l s1 upd_same⟩
    · refine ⟨_, rfl, errS he s0, _, _, false, rfl, fun _ h => h, some_bl (S.ki "NoUnit" (by simp [allX]) "BadImage" (by simp [allX])) (by decide +kernel), _, rfl, iteF ?_⟩
      refine ⟨_, rfl, errS he s0, _, _, false, rfl, fun _ h => h, some_bl (S.ki "NoUnit" (by simp [allX]) "BadLine" (by simp [allX])) (by decide +kernel), _, rfl, iteF ?_⟩
      refine ⟨_, rfl, errS he s0, _, _, false, rfl, fun _ h => h, some_bl (S.ki "NoUnit" (by simp [allX]) "NoFunction" (by simp [allX])) (by decide +kernel), _, rfl, iteF ?_⟩
      refine ⟨_, rfl, errS he s0, _, _, false, rfl, fun _ h => h, some_bl (S.ki "NoUnit" (by simp [allX]) "NotTaken" (by simp [allX])) (by decide +kernel), _, rfl, iteF ?_⟩
      refine ⟨_, rfl, errS he s0, _, _, true, rfl, fun _ h => h, some_bl (S.ki "NoUnit" (by simp [allX]) "NoUnit" (by simp [allX])) (by decide +kernel), _, rfl, iteT ?_⟩
      refine ⟨_, rfl, .inl ⟨rfl, _, SqL.of upd_same⟩, l, [], .str "NoUnit", rfl, rfl, upd_same, by decide, ?_⟩
      have s1 : Same H (upd (upd H l (.lst [])) l (.lst [.str "NoUnit"])) := s0.upd_new hl
      refine ⟨_, rfl, errS he s1, _, _, false, rfl, fun _ h => h, some_bl (S.ki "NoUnit" (by simp [allX]) "OtherShape" (by simp [allX])) (by decide +kernel), _, rfl, iteF ?_⟩
      refine ⟨_, rfl, errS he s1, _, _, false, rfl, fun _ h => h, some_bl (S.ki "NoUnit" (by simp [allX]) "Refused" (by simp [allX])) (by decide +kernel), _, rfl, iteF ?_⟩
      refine ⟨_, rfl, errS he s1, _, _, false, rfl, fun _ h => h, some_bl (S.ki "NoUnit" (by simp [allX]) "Twice" (by simp [allX])) (by decide +kernel), _, rfl, iteF ?_⟩
      refine ⟨_, rfl, errS he s1, _, _, true, rfl, fun _ h => h, S.kv "NoUnit" (by simp [allX]), _, rfl, iteF ?_⟩
      exact ⟨_, rfl, q _ l s1 upd_same⟩
    · refine ⟨_, rfl, errS he s0, _, _, false, rfl, fun _ h => h, some_bl (S.ki "OtherShape" (by simp [allX]) "BadImage" (by simp [allX])) (by decide +kernel), _, rfl, iteF ?_⟩
      refine ⟨_, rfl, errS he s0, _, _, false, rfl, fun _ h => h, some_bl (S.ki "OtherShape" (by simp [allX]) "BadLine" (by simp [allX])) (by decide +kernel), _, rfl, iteF ?_⟩
      refine ⟨_, rfl, errS he s0, _, _, false, rfl, fun _ h => h, some_bl (S.ki "OtherShape" (by simp [allX]) "NoFunction" (by simp [allX])) (by decide +kernel), _, rfl, iteF ?_⟩
      refine ⟨_, rfl, errS he s0, _, _, false, rfl, fun _ h => h, some_bl (S.ki "OtherShape" (by simp [allX]) "NotTaken" (by simp [allX])) (by decide +kernel), _, rfl, iteF ?_⟩
      refine ⟨_, rfl, errS he s0, _, _, false, rfl, fun _ h => h, some_bl (S.ki "OtherShape" (by simp [allX]) "NoUnit" (by simp [allX])) (by decide +kernel), _, rfl, iteF ?_⟩
      refine ⟨_, rfl, errS he s0, _, _, true, rfl, fun _ h => h, some_bl (S.ki "OtherShape" (by simp [allX]) "OtherShape" (by simp [allX])) (by decide +kernel), _, rfl, iteT ?_⟩
      refine ⟨_, rfl, .inl ⟨rfl, _, SqL.of upd_same⟩, l, [], .str "OtherShape", rfl, rfl, upd_same, by decide, ?_⟩
      have s1 : Same H (upd (upd H l (.lst [])) l (.lst [.str "OtherShape"])) := s0.upd_new hl
      refine ⟨_, rfl, errS he s1, _, _, false, rfl, fun _ h => h, some_bl (S.ki "OtherShape" (by simp [allX]) "Refused" (by simp [allX])) (by decide +kernel), _, rfl, iteF ?_⟩
      refine ⟨_, rfl, errS he s1, _, _, false, rfl, fun _ h => h, some_bl (S.ki "OtherShape" (by simp [allX]) "Twice" (by simp [allX])) (by decide +kernel), _, rfl, iteF ?_⟩
      refine ⟨_, rfl, errS he s1, _, _, true, rfl, fun _ h => h, S.kv "OtherShape" (by simp [allX]), _, rfl, iteF ?_⟩
      exact ⟨_, rfl, q _ l s1 upd_same⟩
    · refine ⟨_, rfl, errS he s0, _, _, false, rfl, fun _ h => h, some_bl (S.ki "Refused" (by simp [allX]) "BadImage" (by simp [allX])) (by decide +kernel), _, rfl, iteF ?_⟩
      refine ⟨_, rfl, errS he s0, _, _, false, rfl, fun _ h => h, some_bl (S.ki "Refused" (by simp [allX]) "BadLine" (by simp [allX])) (by decide +kernel), _, rfl, iteF ?_⟩
      refine ⟨_, rfl, errS he s0, _, _, false, rfl, fun _ h => h, some_bl (S.ki "Refused" (by simp [allX]) "NoFunction" (by simp [allX])) (by decide +kernel), _, rfl, iteF ?_⟩
      refine ⟨_, rfl, errS he s0, _, _, false, rfl, fun _ h => h, some_bl (S.ki "Refused" (by simp [allX]) "NotTaken" (by simp [allX])) (by decide +kernel), _, rfl, iteF ?_⟩
      refine ⟨_, rfl, errS he s0, _, _, false, rfl, fun _ h => h, some_bl (S.ki "Refused" (by simp [allX]) "NoUnit" (by simp [allX])) (by decide +kernel), _, rfl, iteF ?_⟩
      refine ⟨_, rfl, errS he s0, _, _, false, rfl, fun _ h => h, some_bl (S.ki "Refused" (by simp [allX]) "OtherShape" (by simp [allX])) (by decide +kernel), _, rfl, iteF ?_⟩
      refine ⟨_, rfl, errS he s0, _, _, true, rfl, fun _ h => h, some_bl (S.ki "Refused" (by simp [allX]) "Refused" (by simp [allX])) (by decide +kernel), _, rfl, iteT ?_⟩
      refine ⟨_, rfl, .inl ⟨rfl, _, SqL.of upd_same⟩, l, [], .str "Refused", rfl, rfl, upd_same, by decide, ?_⟩
      have s1 : Same H (upd (upd H l (.lst [])) l (.lst [.str "Refused"])) := s0.upd_new hl
      refine ⟨_, rfl, errS he s1, _, _, false, rfl, fun _ h => h, some_bl (S.ki "Refused" (by simp [allX]) "Twice" (by simp [allX])) (by decide +kernel), _, rfl, iteF ?_⟩
      refine ⟨_, rfl, errS he s1, _, _, true, rfl, fun _ h => h, S.kv "Refused" (by simp [allX]), _, rfl, iteF ?_⟩
      exact ⟨_, rfl, q _ l s1 upd_same⟩
    · refine ⟨_, rfl, errS he s0, _, _, false, rfl, fun _ h => h, some_bl (S.ki "Twice" (by simp [allX]) "BadImage" (by simp [allX])) (by decide +kernel), _, rfl, iteF ?_⟩
      refine ⟨_, rfl, errS he s0, _, _, false, rfl, fun _ h => h, some_bl (S.ki "Twice" (by simp [allX]) "BadLine" (by simp [allX])) (by decide +kernel), _, rfl, iteF ?_⟩
      refine ⟨_, rfl, errS he s0, _, _, false, rfl, fun _ h => h, some_bl (S.ki "Twice" (by simp [allX]) "NoFunction" (by simp [allX])) (by decide +kernel), _, rfl, iteF ?_⟩
      refine ⟨_, rfl, errS he s0, _, _, false, rfl, fun _ h => h, some_bl (S.ki "Twice" (by simp [allX]) "NotTaken" (by simp [allX])) (by decide +kernel), _, rfl, iteF ?_⟩
      refine ⟨_, rfl, errS he s0, _, _, false, rfl, fun _ h => h, some_bl (S.ki "Twice" (by simp [allX]) "NoUnit" (by simp [allX])) (by decide +kernel), _, rfl, iteF ?_⟩
      refine ⟨_, rfl, errS he s0, _, _, false, rfl, fun _ h => h, some_bl (S.ki "Twice" (by simp [allX]) "OtherShape" (by simp [allX])) (by decide +kernel), _, rfl, iteF ?_⟩
      refine ⟨_, rfl, errS he s0, _, _, false, rfl, fun _ h => h, some_bl (S.ki "Twice" (by simp [allX]) "Refused" (by simp [allX])) (by decide +kernel), _, rfl, iteF ?_⟩
      refine ⟨_, rfl, errS he s0, _, _, true, rfl, fun _ h => h, some_bl (S.ki "Twice" (by simp [allX]) "Twice" (by simp [allX])) (by decide +kernel), _, rfl, iteT ?_⟩
      refine ⟨_, rfl, .inl ⟨rfl, _, SqL.of upd_same⟩, l, [], .str "Twice", rfl, rfl, upd_same, by decide, ?_⟩
      have s1 : Same H (upd (upd H l (.lst [])) l (.lst [.str "Twice"])) := s0.upd_new hl
      refine ⟨_, rfl, errS he s1, _, _, true, rfl, fun _ h => h, S.kv "Twice" (by simp [allX]), _, rfl, iteF ?_⟩
      exact ⟨_, rfl, q _ l s1 upd_same⟩
end
end K71

set_option Elab.async false
set_option linter.all false
set_option maxRecDepth 100000
set_option maxHeartbeats 4000000
/-! a tuple times 0 or 1, too -/
namespace R71
open PySem PySem.Spec PyProof.Rows L2
theorem tuple_mul0 (l : Addr) (items : Array Value) (n : Nat) (dd : Option Addr) (sl : Array (Option Value)) (u : Tok) (c1 : (items.isEmpty || (0 : Int) == 1) = false) :
    Meets (Builtin.«tuple.__mul__» ⟨[.ref l, .int 0 u], []⟩) (fun _ R s => s.heap.get? l = some { cls := .type "tuple", dict := dd, data := .seq items n, slots := sl } ∧
      R (.ok (.ret (Value.ref s.heap.objs.size))) { s with heap := s.heap.push { cls := Value.type "tuple", data := Data.seq #[] }, toks := s.toks }) :=
  .of_wp fun prog w A R s h => by
    obtain ⟨hp, g, d, tk, os⟩ := s
    obtain ⟨hl, h⟩ := h
    have f1 := AutoSeq1.idx_int
    have c2 : (decide ((0 : Int) ≤ 0) || items.isEmpty) = true := by simp
    wp_walk using wpAny_loadPart' hl
    refine wpAny_ite_false (decide_eq_false (by rw [c1]; exact Bool.false_ne_true)) ?_
    show wpAny _ _ (if (decide ((0 : Int) ≤ 0) || items.isEmpty) = true then _ else _) _ _ _
    rw [if_pos c2]
    wp_walk using wpAny_loadPart' hl
    first
      | exact ⟨_, rfl, h⟩
      | (refine wpAny_ite_false (decide_eq_false (Nat.not_lt.mpr (by decide))) ?_; wp_walk using wpAny_loadPart' hl; exact ⟨_, rfl, h⟩)
theorem tuple_mul1 (l : Addr) (items : Array Value) (n : Nat) (dd : Option Addr) (sl : Array (Option Value)) (u : Tok) (c1 : (items.isEmpty || (1 : Int) == 1) = true) :
    Meets (Builtin.«tuple.__mul__» ⟨[.ref l, .int 1 u], []⟩) (fun _ R s => s.heap.get? l = some { cls := .type "tuple", dict := dd, data := .seq items n, slots := sl } ∧
      R (.ok (.ret (Value.ref l))) s) :=
  .of_wp fun prog w A R s h => by
    obtain ⟨hp, g, d, tk, os⟩ := s
    obtain ⟨hl, h⟩ := h
    have f1 := AutoSeq1.idx_int
    wp_walk using wpAny_loadPart' hl
    exact ⟨_, rfl, h⟩
/-- a tuple that is not empty, k times: it may be the tuple itself -/
def rRepA (K : PySem.W.Frag) : R2 := fun x y H Q => ∃ l k xs, x = .ref l ∧ y = .int k ∧ SqT K H l xs ∧ xs ≠ [] ∧ 0 ≤ k ∧ k ≤ 1000 ∧ xs.length ≤ 1000 ∧ ∀ H' p, Same H H' → SqT K H' p (List.replicate k.toNat xs).flatten → Q (.ref p) H'
theorem same_new {H : Hp} {p : Addr} {o : HO} (hp : H p = none) : Same H (upd H p o) := fun b u e => by rw [upd_ne (fun z => by rw [z, hp] at e; cases e)]; exact e
section
variable {X : Cx}
theorem op_repA : OpR X (binaryOp .Mult) (rRepA X.K) := by
  intro pins s σ H x y v u Q I rx ry h
  obtain ⟨l, k, xs, rfl, rfl, hT, hne, h1, h2, hz, q⟩ := h
  by_cases hk : 2 ≤ k
  · exact op_repT pins s σ H _ _ v u Q I rx ry ⟨l, k, xs, rfl, rfl, hT, hne, hk, h2, hz, fun p hp => q _ p (same_new hp) (SqT.of upd_same)⟩
  cases rx
  obtain ⟨t, rfl⟩ := ry
  obtain ⟨its, r, ⟨⟨cls, dd, data, sl⟩, ho, hc, n, hd⟩, hs⟩ := id (I.tuple hT)
  simp only at hc hd
  subst hc hd
  have hle : its.length = xs.length := r.length.symm
  have hi : its.toArray.isEmpty = false := by
    cases its with
    | nil => exact absurd (List.eq_nil_of_length_eq_zero hle.symm) hne
    | cons a b => rfl
  rcases (show k = 0 ∨ k = 1 by omega) with rfl | rfl
  · refine wpAny_binaryOp_repeat_ref (T := "tuple") (U := "int") (by decide) ⟨_, ho, rfl⟩ (fun s' => typeIs_int s' 0 t) noFill_tuple_mul F.fills_int_mul F.slot_int_rmul repeat_tuple F.slot_int_index.lookup
      (call_meets F.slot_int_rmul (typeIs_int s 0 t) F.entry_int_rmul (F.args_int_rmul_2 _ _) (int_rmul_tuple 0 t l its.toArray n dd sl)
        ⟨ho, rfl, ⟨_, ho, rfl⟩, call_meets F.slot_tuple_mul ⟨_, ho, rfl⟩ F.entry_tuple_mul (F.args_tuple_mul_2 _ _) (tuple_mul0 l its.toArray n dd sl t (by rw [hi]; decide)) ⟨ho, ?_⟩⟩)
    refine ⟨.ref s.heap.objs.size, _, I.laid (t' := s.toks) (o := .tup []) (fun b ob q => Heap.get?_push_of_some _ q) (Nat.le_refl _) ?_, rfl, q _ _ (same_new (I.hok.fresh (Nat.le_refl _))) ?_⟩
    · exact ⟨Nat.zero_le _, _, .nil, IsTup.new _ _⟩
    · have e : (List.replicate (0 : Int).toNat xs).flatten = [] := rfl
      rw [e]; exact SqT.of upd_same
  · refine wpAny_binaryOp_repeat_ref (T := "tuple") (U := "int") (by decide) ⟨_, ho, rfl⟩ (fun s' => typeIs_int s' 1 t) noFill_tuple_mul F.fills_int_mul F.slot_int_rmul repeat_tuple F.slot_int_index.lookup
      (call_meets F.slot_int_rmul (typeIs_int s 1 t) F.entry_int_rmul (F.args_int_rmul_2 _ _) (int_rmul_tuple 1 t l its.toArray n dd sl)
        ⟨ho, rfl, ⟨_, ho, rfl⟩, call_meets F.slot_tuple_mul ⟨_, ho, rfl⟩ F.entry_tuple_mul (F.args_tuple_mul_2 _ _) (tuple_mul1 l its.toArray n dd sl t (by rw [hi]; decide)) ⟨ho, ?_⟩⟩)
    refine ⟨.ref l, H, I, rfl, q _ _ (Same.refl H) ?_⟩
    have e : (List.replicate (1 : Int).toNat xs).flatten = xs := by
      show (List.replicate 1 xs).flatten = xs
      simp
    rw [e]; exact hT
end
end R71

set_option Elab.async false
set_option linter.all false
set_option maxRecDepth 100000
set_option maxHeartbeats 4000000
namespace K71
open PySem PySem.Spec PyProof.Rows L2
/-! displays of constants, as data -/
def DR (K : PySem.W.Frag) (σ : L2.St) (H0 : Hp) (t : TE) (d : PyData) : Prop := ∀ (H : Hp) (Q : VK), Same H0 H → (∀ H' v, Same H H' → Dp K H' v d → Q v H') → t σ H Q
def DA (K : PySem.W.Frag) (σ : L2.St) (H0 : Hp) (t : TA) (ds : List PyData) : Prop := ∀ (H : Hp) (Q : List V → Hp → Prop), Same H0 H → (∀ H' vs, Same H H' → DpAll K H' vs ds → Q vs H') → t σ H Q
section
variable {K : PySem.W.Frag} {σ : L2.St} {H0 : Hp}
theorem DR.int {i : Int} : DR K σ H0 (tC (.int i)) (.int i) := fun H Q _ q => q H _ (Same.refl H) (.int i)
theorem DR.neg {i : Int} : DR K σ H0 (tUn (rU fun i => .int (-i)) (tC (.int i))) (.int (-i)) := fun H Q _ q => ⟨i, rfl, q H _ (Same.refl H) (.int (-i))⟩
theorem DR.str {z : Str} : DR K σ H0 (tC (.str z)) (.str z) := fun H Q _ q => q H _ (Same.refl H) (.str z)
theorem DR.var {i : Nat} {v : V} {d : PyData} (h : σ[i]? = some (some v)) (hd : Dp K H0 v d) : DR K σ H0 (tVar i) d := fun H Q s q => ⟨v, h, q H v (Same.refl H) (hd.same s)⟩
theorem DA.nil : DA K σ H0 tNil [] := fun H Q _ q => q H [] (Same.refl H) .nil
theorem DA.cons {te : TE} {t : TA} {d : PyData} {ds : List PyData} (h : DR K σ H0 te d) (g : DA K σ H0 t ds) : DA K σ H0 (tCons te t) (d :: ds) := fun H Q s q =>
  h H _ s fun H1 v s1 d1 => g H1 _ (s.trans s1) fun H2 vs s2 d2 => q H2 (v :: vs) (s1.trans s2) (.cons (d1.same s2) d2)
theorem dpall_len {H : Hp} : ∀ {vs : List V} {ds : List PyData}, DpAll K H vs ds → vs.length = ds.length
  | _, _, .nil => rfl
  | _, _, .cons _ h => by rw [List.length_cons, List.length_cons, dpall_len h]
theorem DR.tup {t : TA} {ds : List PyData} (h : DA K σ H0 t ds) (hl : ds.length ≤ 100 := by decide) : DR K σ H0 (tTup t) (.tuple ds) := fun H Q s q =>
  h H _ s fun H1 vs s1 d1 => ⟨by rw [dpall_len d1, sizeLine_eq]; omega, fun p hp => q _ _ (s1.trans (Same.one hp)) (.tup (sqt_new upd_same) (d1.same (Same.one hp)))⟩
/-- one of it alone: its object -/
theorem DA.one {te : TE} {d : PyData} (h : DR K σ H0 te d) : DA K σ H0 (tCons te tNil) [d] := .cons h .nil
end
def dueL : List Str := ["NotTaken", "BadImage", "BadLine", "Refused", "Twice", "NoUnit", "NoFunction", "OtherShape", "BadImage", "BadLine", "Refused"]
/-- the suite of _law_do: what it wants of the error -/
def tsK (K : PySem.W.Frag) : Addr → Value → Option Addr → TS := fun a cls d D σ H => σ[5]? = some (some (.ref a)) ∧ ∃ Dn, Dn ∈ allX ∧ cls = .ref (He.ga K Dn) ∧ (∀ dd, d = some dd → ∃ fs, H dd = some (.xd fs)) ∧ ∀ H' l, Same H H' → H' l = some (.lst [.str Dn]) → D.rt (.ref l) H'
theorem lands_do {K : PySem.W.Frag} {Dn : Str} {d : Option Addr} {σ : L2.St} {H : Hp} {D : Ends} {W : WX} (hx : PySem.W.exmOne K (.ref (He.ga K Dn)) (.ref (He.ga K "LowError")) = some true) (hD : Dn ∈ allX) (hd : ∀ dd, d = some dd → ∃ fs, H dd = some (.xd fs)) (hσ : σ.length = 6)
    (q : ∀ H' l, Same H H' → H' l = some (.lst [.str Dn]) → D.rt (.ref l) H') : wAs K (.ref (He.ga K "LowError")) 5 (tsK K) W D (.ref (He.ga K Dn)) d σ H :=
  ⟨true, hx, fun _ a ha => ⟨by rw [List.getElem?_set_self (by omega)], Dn, hD, rfl, hd, q⟩, fun z => nomatch z⟩
def spDo : Sp := fun vs H Q _ => ∃ (i n : Nat) (D : Str), vs = [.int i, .int n] ∧ n ≤ 8 ∧ dueL[i]? = some D ∧ ∀ H' l, Same H H' → H' l = some (.lst [.str D]) → Q (.ref l) H'
theorem takes0 {X : Cx} : Takes X (fun _ _ _ _ => False) := fun _ _ x => by
  obtain ⟨_, _, _, _, _, _, _, _, _, _, _, _, _, _, _, _, z⟩ := x
  exact z.elim
theorem pss_imp {X : Cx} {st : List Stmt} {t t' : TS} (p : PSs X st t) (h : ∀ D σ H, t' D σ H → t D σ H) : PSs X st t' := ⟨fun pins s σ H D I q => p.run pins s σ H D I (h D σ H q)⟩
theorem catA_any {K : PySem.W.Frag} {a b : Addr} {xs ys : List V} {H : Hp} {Q : VK} (ha : SqT K H a xs) (hb : SqT K H b ys) (hl : xs.length + ys.length ≤ sizeLine) (q : ∀ H' p, Same H H' → SqT K H' p (xs ++ ys) → Q (.ref p) H') : rCatA K (.ref a) (.ref b) H Q :=
  ⟨a, b, xs, ys, rfl, rfl, ha, hb, hl, fun h => q H b (Same.refl H) (by rw [h]; exact hb), fun _ h => q H a (Same.refl H) (by rw [h, List.append_nil]; exact ha), fun _ _ p hp => q _ p (Same.one hp) (sqt_new upd_same)⟩
theorem rep_one1 {x : V} (n : Nat) : (List.replicate (((n : Nat) : Int) + 1).toNat [x]).flatten = List.replicate (n + 1) x := by
  have e : (((n : Nat) : Int) + 1).toNat = (((n + 1 : Nat) : Int)).toNat := by omega
  rw [e]
  show (List.replicate (n + 1) [x]).flatten = _
  generalize n + 1 = m
  induction m with
  | zero => rfl
  | succ n ih => rw [List.replicate_succ, List.flatten_cons, ih, List.replicate_succ]; rfl
theorem rep_one {x : V} (n : Nat) : (List.replicate ((n : Nat) : Int).toNat [x]).flatten = List.replicate n x := by
  show (List.replicate n [x]).flatten = _
  induction n with
  | zero => rfl
  | succ n ih => rw [List.replicate_succ, List.flatten_cons, ih, List.replicate_succ]; rfl
section
variable {P : Program} {w : World} {K : PySem.W.Frag} {mg : Str → Option Value} {base : Heap} (T : Txt K mg) (S : Ext P w K mg)
include T S
theorem ok_do : FnOk P w K mg base CX0 20 (He.ga K "_law_do") T.d__law_do ["way", "number"] spDo := by
  have G_changed := ok_changed (P := P) (w := w) (base := base) T S
  have G_image_from := ok_image_from (P := P) (w := w) (base := base) T S
  have G_image_from_lines := ok_il (P := P) (w := w) (base := base) T S
  have G_judge := ok_judge (P := P) (w := w) (base := base) T S
  have G_linked := ok_linked (P := P) (w := w) (base := base) T
  have G_kinds := ok_kinds (P := P) (w := w) (base := base) T S
  refine T.F__law_do.ok sc_law_do (fun vs H Q E h => ?_) (fun cdv A outer s H vs Q E hr h => ?_)
  · obtain ⟨i, n, D, rfl, _⟩ := h; rfl
  · obtain ⟨i, n, D, rfl, hn, hi, q⟩ := h
    have hm : L2H.RoomH 1 (A.deeper (envOfC "_law_do" (defScope s_law_do) s.heap.objs.size (He.ga K "_law_do") cdv)) := (L2H.roomH_of hr).mono (by decide)
    refine ⟨_, PSs.nox (pss_cons (ps_set (i := 2) sc_law_do.nd rfl (.inl rfl) (pe_tup (pa_cons pe_str (pa_cons pe_int (pa_cons pe_int (pa_cons pe_int (pa_cons (pe_tup (pa_cons (pe_tup (pa_cons pe_str (pa_cons pe_int pa_nil))) pa_nil)) (pa_cons (pe_tup (pa_cons pe_int pa_nil)) pa_nil)))))))) (pss_cons (ps_set (i := 3) sc_law_do.nd rfl (.inl rfl) (pe_tup (pa_cons pe_str (pa_cons pe_int (pa_cons pe_int (pa_cons pe_int (pa_cons (pe_tup (pa_cons (pe_tup (pa_cons pe_str (pa_cons pe_int pa_nil))) pa_nil)) (pa_cons (pe_tup (pa_cons pe_int pa_nil)) pa_nil)))))))) (pss_cons (ps_set (i := 4) sc_law_do.nd rfl (.inl rfl) (pe_tup (pa_cons (pe_tup (pa_cons (pe_tup (pa_cons pe_str (pa_cons (pe_tup pa_nil) (pa_cons (pe_tup (pa_cons (pe_tup (pa_cons pe_str (pa_cons pe_int (pa_cons pe_int (pa_cons (pe_tup (pa_cons (pe_tup (pa_cons (pe_un un_neg pe_int) (pa_cons (pe_tup pa_nil) (pa_cons (pe_tup (pa_cons (pe_tup (pa_cons pe_int (pa_cons pe_int (pa_cons (pe_tup (pa_cons pe_str pa_nil)) pa_nil)))) pa_nil)) (pa_cons (pe_tup (pa_cons pe_str (pa_cons pe_int pa_nil))) pa_nil))))) pa_nil)) pa_nil))))) pa_nil)) pa_nil)))) pa_nil)) (pa_cons (pe_tup (pa_cons pe_str (pa_cons pe_str pa_nil))) pa_nil)))) (pss_cons (ps_try_as (i := 5) (c := .ref (He.ga K "LowError")) (tb := fun W => _) (ts := tsK K) (Wout := fun _ _ _ _ => False) rfl rfl sc_law_do.nd rfl rfl ⟨rfl, by decide, Or.inl T.g_LowError⟩ takes0
      (fun W pn xe tk _ => (pss_cons (ps_if (pt_cmpR op_eq (pv 0) pe_int (nomark _))
    (pss_one (ps_expr (pe_callS G_changed (hr.mono (by omega)) (by rfl) T.g_changed T.F_changed.kp T.b_changed (fun σ => passAt tk σ) (pa_cons (pv 4) (pa_cons (pe_tup (pa_cons pe_str (pa_cons pe_str (pa_cons pe_str (pa_cons pe_int (pa_cons (pv 1) (pa_cons pe_int pa_nil))))))) pa_nil)))))
    pss_nil)
    (pss_cons (ps_if (pt_cmpR op_eq (pv 0) pe_int (nomark _))
    (pss_one (ps_expr (pe_callS G_image_from (hr.mono (by omega)) (by rfl) T.g_image_from T.F_image_from.kp T.b_image_from (fun σ => passAt tk σ) (pa_cons (pe_op (r := rCatA K) op_catA (pe_tup (pa_cons pe_int (pa_cons pe_int pa_nil))) (pe_op (r := R71.rRepA K) R71.op_repA (pe_tup (pa_cons pe_int pa_nil)) (pv 1))) pa_nil))))
    pss_nil)
    (pss_cons (ps_if (pt_cmpR op_eq (pv 0) pe_int (nomark _))
    (pss_one (ps_expr (pe_callS G_image_from_lines (hr.mono (by omega)) (by rfl) T.g_image_from_lines T.F_image_from_lines.kp T.b_image_from_lines (fun σ => passAt tk σ) (pa_cons (pe_op op_cat (pe_lst (pa_cons pe_str pa_nil)) (pe_op op_rep (pe_lst (pa_cons pe_str pa_nil)) (pe_op op_add (pv 1) pe_int))) pa_nil))))
    pss_nil)
    (pss_cons (ps_if (pt_cmpR op_eq (pv 0) pe_int (nomark _))
    (pss_one (ps_expr (pe_callS G_judge (hr.mono (by omega)) (by rfl) T.g_judge T.F_judge.kp T.b_judge (fun σ => passAt tk σ) (pa_cons (pe_tup (pa_cons pe_int (pa_cons (pe_tup (pa_cons (pe_tup (pa_cons pe_str (pa_cons pe_int (pa_cons pe_int (pa_cons pe_int (pa_cons (pe_op (r := rCatA K) op_catA (pe_op (r := R71.rRepA K) R71.op_repA (pe_tup (pa_cons (pe_tup (pa_cons pe_str pa_nil)) pa_nil)) (pv 1)) (pe_tup (pa_cons (pe_tup (pa_cons pe_str (pa_cons pe_int pa_nil))) pa_nil))) (pa_cons (pe_op (r := R71.rRepA K) R71.op_repA (pe_tup (pa_cons pe_int pa_nil)) (pe_op op_add (pv 1) pe_int)) pa_nil))))))) pa_nil)) pa_nil))) pa_nil))))
    pss_nil)
    (pss_cons (ps_if (pt_cmpR op_eq (pv 0) pe_int (nomark _))
    (pss_one (ps_expr (pe_callS G_linked (hr.mono (by omega)) (by rfl) T.g_linked T.F_linked.kp T.b_linked (fun σ => passAt tk σ) (pa_cons (pe_op op_rep (pe_lst (pa_cons (pe_tup (pa_cons pe_str (pa_cons pe_int (pa_cons (pe_tup pa_nil) (pa_cons (pe_tup (pa_cons (pv 2) pa_nil)) pa_nil))))) pa_nil)) pe_int) (pa_cons (pe_tup (pa_cons pe_str (pa_cons pe_str pa_nil))) pa_nil)))))
    pss_nil)
    (pss_cons (ps_if (pt_cmpR op_eq (pv 0) pe_int (nomark _))
    (pss_one (ps_expr (pe_callS G_linked (hr.mono (by omega)) (by rfl) T.g_linked T.F_linked.kp T.b_linked (fun σ => passAt tk σ) (pa_cons (pe_lst (pa_cons (pe_tup (pa_cons pe_str (pa_cons pe_int (pa_cons (pe_tup pa_nil) (pa_cons (pe_tup (pa_cons (pv 2) pa_nil)) pa_nil))))) pa_nil)) (pa_cons (pe_tup (pa_cons pe_str (pa_cons pe_str pa_nil))) pa_nil)))))
    pss_nil)
    (pss_cons (ps_if (pt_cmpR op_eq (pv 0) pe_int (nomark _))
    (pss_one (ps_expr (pe_callS G_linked (hr.mono (by omega)) (by rfl) T.g_linked T.F_linked.kp T.b_linked (fun σ => passAt tk σ) (pa_cons (pe_lst (pa_cons (pe_tup (pa_cons pe_str (pa_cons pe_int (pa_cons (pe_tup pa_nil) (pa_cons (pe_tup (pa_cons (pv 2) pa_nil)) pa_nil))))) pa_nil)) (pa_cons (pe_tup (pa_cons pe_str (pa_cons pe_str pa_nil))) pa_nil)))))
    pss_nil)
    (pss_cons (ps_if (pt_cmpR op_eq (pv 0) pe_int (nomark _))
    (pss_one (ps_expr (pe_callS G_linked (hr.mono (by omega)) (by rfl) T.g_linked T.F_linked.kp T.b_linked (fun σ => passAt tk σ) (pa_cons (pe_lst (pa_cons (pe_tup (pa_cons pe_str (pa_cons pe_int (pa_cons (pe_tup pa_nil) (pa_cons (pe_tup (pa_cons (pv 3) pa_nil)) pa_nil))))) pa_nil)) (pa_cons (pe_tup (pa_cons pe_str (pa_cons pe_str pa_nil))) pa_nil)))))
    pss_nil)
    (pss_cons (ps_if (pt_cmpR op_eq (pv 0) pe_int (nomark _))
    (pss_one (ps_raise rfl tk (pmk_oex S.o_BadImage S.i_BadImage S.t_BadImage (S.f_BadImage _) (hr.mono (by omega)) S.b_BadImage .nil pass0 (by rfl) T.g_BadImage (pa_cons (pv 1) pa_nil))))
    pss_nil)
    (pss_cons (ps_if (pt_cmpR op_eq (pv 0) pe_int (nomark _))
    (pss_one (ps_raise rfl tk (pmk_oex S.o_BadLine S.i_BadLine S.t_BadLine (S.f_BadLine _) (hr.mono (by omega)) S.b_BadLine .nil pass0 (by rfl) T.g_BadLine (pa_cons (pv 1) pa_nil))))
    pss_nil)
    (pss_one (ps_if (pt_cmpR op_eq (pv 0) pe_int (nomark _))
    (pss_one (ps_raise rfl tk (pmk_oex S.o_Refused S.i_Refused S.t_Refused (S.f_Refused _) (hr.mono (by omega)) S.b_Refused .nil pass0 (by rfl) T.g_Refused (pa_cons pe_str (pa_cons (pv 1) (pa_cons (pe_op op_add (pv 1) pe_int) pa_nil))))))
    pss_nil)))))))))))))
      (fun a oe cls d pn hz hf => pss_imp (pss_one (ps_ret (KS.pe_callP (p := (a, oe)) (k := 1) G_kinds ⟨hm.dp, hm.un⟩ List.mem_cons_self (by rfl) T.g__law_kinds_of T.F__law_kinds_of.kp T.b__law_kinds_of pass0 (pa_cons (pv 5) pa_nil)))) (fun D1 σ1 H1 h => by
        obtain ⟨hσ, Dn, hD, rfl, hd, hq⟩ := h
        exact ⟨_, hσ, Dn, d, hD, rfl, ⟨hz, hf, hd⟩, fun H' l s2 e => hq H' l s2 e⟩))) (pss_one (ps_ret (pe_lst (pa_cons pe_str pa_nil)))))))), ?_⟩
    unfold tSeq tAsg gName
    refine (show DR K _ H _ (dPl 0) from .tup (.cons .str (.cons .int (.cons .int (.cons .int (.cons (.tup (.cons (.tup (.cons .str (.cons .int .nil))) .nil)) (.cons (.tup (.cons .int .nil)) .nil))))))) _ _ (Same.refl H) fun H1 pl s1 d1 => ?_
    dsimp only
    refine (show DR K _ H1 _ (dPl 1) from .tup (.cons .str (.cons .int (.cons .int (.cons .int (.cons (.tup (.cons (.tup (.cons .str (.cons .int .nil))) .nil)) (.cons (.tup (.cons .int .nil)) .nil))))))) _ _ (Same.refl H1) fun H2 ot s2 d2 => ?_
    refine (show DR K _ H2 _ dProg from .tup (.cons (.tup (.cons (.tup (.cons .str (.cons (.tup .nil) (.cons (.tup (.cons (.tup (.cons .str (.cons .int (.cons .int (.cons (.tup (.cons (.tup (.cons .neg (.cons (.tup .nil) (.cons (.tup (.cons (.tup (.cons .int (.cons .int (.cons (.tup (.cons .str .nil)) .nil)))) .nil)) (.cons (.tup (.cons .str (.cons .int .nil))) .nil))))) .nil)) .nil))))) .nil)) .nil)))) .nil)) (.cons (.tup (.cons .str (.cons .str .nil))) .nil))) _ _ (Same.refl H2) fun H3 pr s3 d3 => ?_
    replace d1 : Dp K H3 pl (dPl 0) := d1.same (s2.trans s3)
    replace d2 : Dp K H3 ot (dPl 1) := d2.same s3
    replace d3 : Dp K H3 pr dProg := d3
    have s13 := (s1.trans s2).trans s3
    have ok : ∀ (Dn : Str) (d : Option Addr) (H' : Hp), dueL[i]? = some Dn → Same H3 H' → ∀ H'' l, Same H' H'' → H'' l = some (.lst [.str Dn]) → Q (.ref l) H'' := fun Dn d H' e s4 H'' l s5 g => by
      rw [hi] at e; cases e
      exact q H'' l ((s13.trans s4).trans s5) g
    have hlt : i < 11 := by
      have h := (List.getElem?_eq_some_iff.mp hi).1
      exact h
    rcases (show i = 0 ∨ i = 1 ∨ i = 2 ∨ i = 3 ∨ i = 4 ∨ i = 5 ∨ i = 6 ∨ i = 7 ∨ i = 8 ∨ i = 9 ∨ i = 10 by omega) with rfl | rfl | rfl | rfl | rfl | rfl | rfl | rfl | rfl | rfl | rfl
    · refine ⟨_, rfl, rfl, true, rfl, iteT ?_⟩
      refine ⟨_, rfl, _, rfl, (by show 6 ≤ sizeLine; decide), fun p hp => ?_⟩
      have sp := Same.one (o := .tup [.str "fold", .str "a", .str "f", .int 0, .int (n : Nat), .int 0]) hp
      exact ⟨_, _, n, rfl, hn, .tup (sqt_new upd_same) (.cons (.str _) (.cons (.str _) (.cons (.str _) (.cons (.int _) (.cons (.int _) (.cons (.int _) .nil)))))), d3.same sp, fun H' s4 => lands_do T.x_NotTaken_LowError (by simp [allX]) (fun dd e => nomatch e) rfl (ok "NotTaken" none _ rfl (sp.trans s4))⟩
    · refine ⟨_, rfl, rfl, false, rfl, iteF ?_⟩
      refine ⟨_, rfl, rfl, true, rfl, iteT ?_⟩
      refine ⟨(by show 2 ≤ sizeLine; decide), fun p hp => ⟨(by show 1 ≤ sizeLine; decide), fun p2 hp2 => ⟨_, rfl, p2, n, [.int 5], rfl, rfl, SqT.of upd_same, by simp, by omega, by omega, (by show 1 ≤ 1000; decide), fun H4 r s4 g4 => ?_⟩⟩⟩
      rw [rep_one] at g4
      have sa := Same.one (o := .tup [.int 87, .int 68]) hp
      have sb := Same.one (o := .tup [.int 5]) hp2
      have s5 := (sa.trans sb).trans s4
      refine catA_any (s4.sqt (sqt_new (sb _ _ upd_same))) g4 (by rw [sizeLine_eq, List.length_replicate]; show 2 + n ≤ _; omega) fun H5 rw_ s6 g6 => ?_
      exact ⟨rw_, n, rfl, g6, hn, fun H' d fs s7 hx => lands_do T.x_BadImage_LowError (by simp [allX]) (fun dd e => ⟨_, by cases e; exact hx⟩) rfl (ok "BadImage" (some d) _ rfl ((s5.trans s6).trans s7))⟩
    · refine ⟨_, rfl, rfl, false, rfl, iteF ?_⟩
      refine ⟨_, rfl, rfl, false, rfl, iteF ?_⟩
      refine ⟨_, rfl, rfl, true, rfl, iteT ?_⟩
      refine ⟨(by show 1 ≤ sizeLine; decide), fun l hl => ⟨(by show 1 ≤ sizeLine; decide), fun l2 hl2 => ⟨_, rfl, _, _, rfl, rfl, l2, _, [.str "x"], rfl, rfl, upd_same, by omega, by omega, by rw [sizeLine_eq]; show 1 * _ ≤ _; omega, fun l3 hl3 => ?_⟩⟩⟩
      have sa := Same.one (o := .lst [.str "image 4 0"]) hl
      have sb := Same.one (o := .lst [.str "x"]) hl2
      have sc := Same.one (o := .lst (List.replicate (((n : Nat) : Int) + 1).toNat [V.str "x"]).flatten) hl3
      refine ⟨l, l3, _, _, rfl, rfl, sc _ _ (sb _ _ upd_same), upd_same, by rw [rep_one1, sizeLine_eq, List.length_replicate]; show 1 + (n + 1) ≤ _; omega, fun l4 hl4 => ?_⟩
      have sd := Same.one (o := .lst ([V.str "image 4 0"] ++ (List.replicate (((n : Nat) : Int) + 1).toNat [V.str "x"]).flatten)) hl4
      refine ⟨l4, n, rfl, ?_, hn, fun H' d s7 hx => lands_do T.x_BadLine_LowError (by simp [allX]) (fun dd e => ⟨_, by cases e; exact hx⟩) rfl (ok "BadLine" (some d) _ rfl ((((sa.trans sb).trans sc).trans sd).trans s7))⟩
      have e : linesN n = [V.str "image 4 0"] ++ (List.replicate (((n : Nat) : Int) + 1).toNat [V.str "x"]).flatten := by rw [rep_one1]; rfl
      rw [e]; exact SqL.of upd_same
    · refine ⟨_, rfl, rfl, false, rfl, iteF ?_⟩
      refine ⟨_, rfl, rfl, false, rfl, iteF ?_⟩
      refine ⟨_, rfl, rfl, false, rfl, iteF ?_⟩
      refine ⟨_, rfl, rfl, true, rfl, iteT ?_⟩
      refine ⟨(by show 1 ≤ sizeLine; decide), fun tk htk => ⟨(by show 1 ≤ sizeLine; decide), fun t1 ht1 => ⟨_, rfl, t1, n, [.ref tk], rfl, rfl, SqT.of upd_same, by simp, by omega, by omega, (by show 1 ≤ 1000; decide), fun H4 r s4 g4 => ?_⟩⟩⟩
      rw [rep_one] at g4
      have sa := Same.one (o := .tup [.str "tick"]) htk
      have sb := Same.one (o := .tup [.ref tk]) ht1
      refine ⟨(by show 2 ≤ sizeLine; decide), fun gv hgv => ⟨(by show 1 ≤ sizeLine; decide), fun g1 hg1 => ?_⟩⟩
      have sc := Same.one (o := .tup [.str "give", .int 0]) hgv
      have sd := Same.one (o := .tup [.ref gv]) hg1
      refine catA_any ((sc.trans sd).sqt g4) (SqT.of upd_same) (by rw [sizeLine_eq, List.length_replicate]; show n + 1 ≤ _; omega) fun H5 cd s5 g5 => ?_
      refine ⟨(by show 1 ≤ sizeLine; decide), fun z hz => ⟨_, rfl, _, _, rfl, rfl, z, _, [.int 0], rfl, rfl, SqT.of upd_same, by simp, by omega, by omega, (by show 1 ≤ 1000; decide), fun H6 pl2 s6 g6 => ?_⟩⟩
      have se := Same.one (o := .tup [.int 0]) hz
      refine ⟨(by show 6 ≤ sizeLine; decide), fun f hf => ⟨(by show 1 ≤ sizeLine; decide), fun fs hfs => ⟨(by show 2 ≤ sizeLine; decide), fun p hp => ?_⟩⟩⟩
      have sf := Same.one (o := .tup [.str "a.f", .int 0, .int 0, .int 0, .ref cd, .ref pl2]) hf
      have sg := Same.one (o := .tup [.ref f]) hfs
      have sh := Same.one (o := .tup [.int 4, .ref fs]) hp
      have s8 := (sf.trans sg).trans sh
      have s7 := (se.trans s6).trans s8
      have s9 := ((sc.trans sd).trans s5).trans s7
      refine ⟨p, fs, f, cd, tk, gv, n, rfl, SqT.of upd_same, ⟨sqt_new (sh _ _ upd_same), ⟨.ref pl2, sqt_new ((sg.trans sh) _ _ upd_same)⟩, s7.sqt g5, sqt_new (s9 _ _ (s4 _ _ (sb _ _ upd_same))), sqt_new (((sd.trans s5).trans s7) _ _ upd_same), hn⟩, fun H' d s10 hx => lands_do T.x_Refused_LowError (by simp [allX]) (fun dd e => ⟨_, by cases e; exact hx⟩) rfl (ok "Refused" (some d) _ rfl ((((sa.trans sb).trans s4).trans s9).trans s10))⟩
    · refine ⟨_, rfl, rfl, false, rfl, iteF ?_⟩
      refine ⟨_, rfl, rfl, false, rfl, iteF ?_⟩
      refine ⟨_, rfl, rfl, false, rfl, iteF ?_⟩
      refine ⟨_, rfl, rfl, false, rfl, iteF ?_⟩
      refine ⟨_, rfl, rfl, true, rfl, iteT ?_⟩
      refine ⟨Nat.zero_le _, fun e he => ⟨_, rfl, (by show 1 ≤ sizeLine; decide), fun x hx => ⟨(by show 4 ≤ sizeLine; decide), fun o ho => ⟨(by show 1 ≤ sizeLine; decide), fun l hl => ?_⟩⟩⟩⟩
      have sa := Same.one (o := .tup []) he
      have sb := Same.one (o := .tup [pl]) hx
      have sc := Same.one (o := .tup [.str "a", .int 4, .ref e, .ref x]) ho
      have sd := Same.one (o := .lst [.ref o]) hl
      have s4 := ((sa.trans sb).trans sc).trans sd
      have dob := DpAll.cons (.str "a") (.cons (.int 4) (.cons (.tup (sqt_new (((sb.trans sc).trans sd) _ _ upd_same)) .nil) (.cons (.tup (sqt_new ((sc.trans sd) _ _ upd_same)) (.cons (d1.same s4) .nil)) .nil)))
      have dobj := Dp.tup (sqt_new (K := K) (sd _ _ upd_same)) dob
      refine ⟨l, 2, [.ref o], rfl, rfl, upd_same, by decide, by decide, (by show 1 * 2 ≤ sizeLine; decide), fun l2 hl2 => ?_⟩
      have se := Same.one (o := .lst (List.replicate (2 : Int).toNat [V.ref o]).flatten) hl2
      refine ⟨(by show 2 ≤ sizeLine; decide), fun p hp => ?_⟩
      have sf := Same.one (o := .tup [.str "a", .str "f"]) hp
      exact ⟨l2, .ref o, 0, "a", "f", p, rfl, SqT.of upd_same, dobj.same (se.trans sf), .inl ⟨SqL.of (sf _ _ upd_same), fun H' s5 => lands_do T.x_Twice_LowError (by simp [allX]) (fun dd e => nomatch e) rfl (ok "Twice" none _ rfl (((s4.trans se).trans sf).trans s5))⟩⟩
    · refine ⟨_, rfl, rfl, false, rfl, iteF ?_⟩
      refine ⟨_, rfl, rfl, false, rfl, iteF ?_⟩
      refine ⟨_, rfl, rfl, false, rfl, iteF ?_⟩
      refine ⟨_, rfl, rfl, false, rfl, iteF ?_⟩
      refine ⟨_, rfl, rfl, false, rfl, iteF ?_⟩
      refine ⟨_, rfl, rfl, true, rfl, iteT ?_⟩
      refine ⟨Nat.zero_le _, fun e he => ⟨_, rfl, (by show 1 ≤ sizeLine; decide), fun x hx => ⟨(by show 4 ≤ sizeLine; decide), fun o ho => ⟨(by show 1 ≤ sizeLine; decide), fun l hl => ?_⟩⟩⟩⟩
      have sa := Same.one (o := .tup []) he
      have sb := Same.one (o := .tup [pl]) hx
      have sc := Same.one (o := .tup [.str "a", .int 4, .ref e, .ref x]) ho
      have sd := Same.one (o := .lst [.ref o]) hl
      have s4 := ((sa.trans sb).trans sc).trans sd
      have dob := DpAll.cons (.str "a") (.cons (.int 4) (.cons (.tup (sqt_new (((sb.trans sc).trans sd) _ _ upd_same)) .nil) (.cons (.tup (sqt_new ((sc.trans sd) _ _ upd_same)) (.cons (d1.same s4) .nil)) .nil)))
      have dobj := Dp.tup (sqt_new (K := K) (sd _ _ upd_same)) dob
      refine ⟨(by show 2 ≤ sizeLine; decide), fun p hp => ?_⟩
      have sf := Same.one (o := .tup [.str "b", .str "f"]) hp
      exact ⟨l, .ref o, 0, "b", "f", p, rfl, SqT.of upd_same, dobj.same sf, .inr ⟨SqL.of (sf _ _ upd_same), fun _ H' s5 => lands_do T.x_NoUnit_LowError (by simp [allX]) (fun dd e => nomatch e) rfl (ok "NoUnit" none _ rfl ((s4.trans sf).trans s5)), fun h => absurd h (by decide +kernel), fun h => absurd h (by decide +kernel)⟩⟩
    · refine ⟨_, rfl, rfl, false, rfl, iteF ?_⟩
      refine ⟨_, rfl, rfl, false, rfl, iteF ?_⟩
      refine ⟨_, rfl, rfl, false, rfl, iteF ?_⟩
      refine ⟨_, rfl, rfl, false, rfl, iteF ?_⟩
      refine ⟨_, rfl, rfl, false, rfl, iteF ?_⟩
      refine ⟨_, rfl, rfl, false, rfl, iteF ?_⟩
      refine ⟨_, rfl, rfl, true, rfl, iteT ?_⟩
      refine ⟨Nat.zero_le _, fun e he => ⟨_, rfl, (by show 1 ≤ sizeLine; decide), fun x hx => ⟨(by show 4 ≤ sizeLine; decide), fun o ho => ⟨(by show 1 ≤ sizeLine; decide), fun l hl => ?_⟩⟩⟩⟩
      have sa := Same.one (o := .tup []) he
      have sb := Same.one (o := .tup [pl]) hx
      have sc := Same.one (o := .tup [.str "a", .int 4, .ref e, .ref x]) ho
      have sd := Same.one (o := .lst [.ref o]) hl
      have s4 := ((sa.trans sb).trans sc).trans sd
      have dob := DpAll.cons (.str "a") (.cons (.int 4) (.cons (.tup (sqt_new (((sb.trans sc).trans sd) _ _ upd_same)) .nil) (.cons (.tup (sqt_new ((sc.trans sd) _ _ upd_same)) (.cons (d1.same s4) .nil)) .nil)))
      have dobj := Dp.tup (sqt_new (K := K) (sd _ _ upd_same)) dob
      refine ⟨(by show 2 ≤ sizeLine; decide), fun p hp => ?_⟩
      have sf := Same.one (o := .tup [.str "a", .str "g"]) hp
      exact ⟨l, .ref o, 0, "a", "g", p, rfl, SqT.of upd_same, dobj.same sf, .inr ⟨SqL.of (sf _ _ upd_same), fun h => absurd rfl h, fun _ _ H' s5 => lands_do T.x_NoFunction_LowError (by simp [allX]) (fun dd e => nomatch e) rfl (ok "NoFunction" none _ rfl ((s4.trans sf).trans s5)), fun _ h => absurd h (by decide +kernel)⟩⟩
    · refine ⟨_, rfl, rfl, false, rfl, iteF ?_⟩
      refine ⟨_, rfl, rfl, false, rfl, iteF ?_⟩
      refine ⟨_, rfl, rfl, false, rfl, iteF ?_⟩
      refine ⟨_, rfl, rfl, false, rfl, iteF ?_⟩
      refine ⟨_, rfl, rfl, false, rfl, iteF ?_⟩
      refine ⟨_, rfl, rfl, false, rfl, iteF ?_⟩
      refine ⟨_, rfl, rfl, false, rfl, iteF ?_⟩
      refine ⟨_, rfl, rfl, true, rfl, iteT ?_⟩
      refine ⟨Nat.zero_le _, fun e he => ⟨_, rfl, (by show 1 ≤ sizeLine; decide), fun x hx => ⟨(by show 4 ≤ sizeLine; decide), fun o ho => ⟨(by show 1 ≤ sizeLine; decide), fun l hl => ?_⟩⟩⟩⟩
      have sa := Same.one (o := .tup []) he
      have sb := Same.one (o := .tup [ot]) hx
      have sc := Same.one (o := .tup [.str "a", .int 4, .ref e, .ref x]) ho
      have sd := Same.one (o := .lst [.ref o]) hl
      have s4 := ((sa.trans sb).trans sc).trans sd
      have dob := DpAll.cons (.str "a") (.cons (.int 4) (.cons (.tup (sqt_new (((sb.trans sc).trans sd) _ _ upd_same)) .nil) (.cons (.tup (sqt_new ((sc.trans sd) _ _ upd_same)) (.cons (d2.same s4) .nil)) .nil)))
      have dobj := Dp.tup (sqt_new (K := K) (sd _ _ upd_same)) dob
      refine ⟨(by show 2 ≤ sizeLine; decide), fun p hp => ?_⟩
      have sf := Same.one (o := .tup [.str "a", .str "f"]) hp
      exact ⟨l, .ref o, 1, "a", "f", p, rfl, SqT.of upd_same, dobj.same sf, .inr ⟨SqL.of (sf _ _ upd_same), fun h => absurd rfl h, fun _ h => absurd rfl h, fun _ _ => ⟨by decide, fun H' s5 => lands_do T.x_OtherShape_LowError (by simp [allX]) (fun dd e => nomatch e) rfl (ok "OtherShape" none _ rfl ((s4.trans sf).trans s5))⟩⟩⟩
    · refine ⟨_, rfl, rfl, false, rfl, iteF ?_⟩
      refine ⟨_, rfl, rfl, false, rfl, iteF ?_⟩
      refine ⟨_, rfl, rfl, false, rfl, iteF ?_⟩
      refine ⟨_, rfl, rfl, false, rfl, iteF ?_⟩
      refine ⟨_, rfl, rfl, false, rfl, iteF ?_⟩
      refine ⟨_, rfl, rfl, false, rfl, iteF ?_⟩
      refine ⟨_, rfl, rfl, false, rfl, iteF ?_⟩
      refine ⟨_, rfl, rfl, false, rfl, iteF ?_⟩
      refine ⟨_, rfl, rfl, true, rfl, iteT ?_⟩
      exact ⟨_, rfl, (by show 1 ≤ 1000; decide), fun e he => mk_exc (E := WE (wAs K (.ref (He.ga K "LowError")) 5 (tsK K) (fun _ _ _ _ => False) _) _) ⟨n, rfl, by omega⟩ he fun H' d s4 hx => lands_do T.x_BadImage_LowError (by simp [allX]) (fun dd e => ⟨_, by cases e; exact hx⟩) rfl (ok "BadImage" (some d) _ rfl (s4))⟩
    · refine ⟨_, rfl, rfl, false, rfl, iteF ?_⟩
      refine ⟨_, rfl, rfl, false, rfl, iteF ?_⟩
      refine ⟨_, rfl, rfl, false, rfl, iteF ?_⟩
      refine ⟨_, rfl, rfl, false, rfl, iteF ?_⟩
      refine ⟨_, rfl, rfl, false, rfl, iteF ?_⟩
      refine ⟨_, rfl, rfl, false, rfl, iteF ?_⟩
      refine ⟨_, rfl, rfl, false, rfl, iteF ?_⟩
      refine ⟨_, rfl, rfl, false, rfl, iteF ?_⟩
      refine ⟨_, rfl, rfl, false, rfl, iteF ?_⟩
      refine ⟨_, rfl, rfl, true, rfl, iteT ?_⟩
      exact ⟨_, rfl, (by show 1 ≤ 1000; decide), fun e he => mk_exc (E := WE (wAs K (.ref (He.ga K "LowError")) 5 (tsK K) (fun _ _ _ _ => False) _) _) ⟨n, rfl, by omega⟩ he fun H' d s4 hx => lands_do T.x_BadLine_LowError (by simp [allX]) (fun dd e => ⟨_, by cases e; exact hx⟩) rfl (ok "BadLine" (some d) _ rfl (s4))⟩
    · refine ⟨_, rfl, rfl, false, rfl, iteF ?_⟩
      refine ⟨_, rfl, rfl, false, rfl, iteF ?_⟩
      refine ⟨_, rfl, rfl, false, rfl, iteF ?_⟩
      refine ⟨_, rfl, rfl, false, rfl, iteF ?_⟩
      refine ⟨_, rfl, rfl, false, rfl, iteF ?_⟩
      refine ⟨_, rfl, rfl, false, rfl, iteF ?_⟩
      refine ⟨_, rfl, rfl, false, rfl, iteF ?_⟩
      refine ⟨_, rfl, rfl, false, rfl, iteF ?_⟩
      refine ⟨_, rfl, rfl, false, rfl, iteF ?_⟩
      refine ⟨_, rfl, rfl, false, rfl, iteF ?_⟩
      refine ⟨_, rfl, rfl, true, rfl, iteT ?_⟩
      exact ⟨_, rfl, _, rfl, _, _, rfl, rfl, (by show 3 ≤ 1000; decide), fun e he => mk_exc (E := WE (wAs K (.ref (He.ga K "LowError")) 5 (tsK K) (fun _ _ _ _ => False) _) _) ⟨"box", n, n + 1, rfl, by decide, by omega, by omega⟩ he fun H' d s4 hx => lands_do T.x_Refused_LowError (by simp [allX]) (fun dd e => ⟨_, by cases e; exact hx⟩) rfl (ok "Refused" (some d) _ rfl (s4))⟩
end
end K71

set_option Elab.async false
set_option linter.all false
set_option maxRecDepth 100000
set_option maxHeartbeats 4000000
namespace K71
open PySem PySem.Spec PyProof.Rows L2
theorem pe_bmK {X : Cx} {K : PySem.W.Frag} {T name id : String} {r : V → List V → Hp → VK → Prop} {o e : Expr} {es : List Expr} {to : TE} {t : TA} {apos cpos : Pos} (hK : X.K = K) (pa : PlainAttrs T) (slot : Slot T name id) (hty : typeOf (.builtin id) = pure (.type "method_descriptor")) (hm : MtR X id r) (ho : PE X o to) (ha : PA X (e :: es) t)
    (hbase : attributeBase o name X.env (eval o X.env) = eval o X.env := by rfl)
    (hfew : ((backTo cpos (starEach (e :: es) X.env)).all (fun x => !x.1) && (backToKw cpos (keywordEach [] X.env)).all (fun x => x.1.isSome)
      && decide ((e :: es).length + ([] : List Keyword).length + (if ([] : List Keyword).isEmpty then 0 else 1) < 30)) = true := by rfl)
    (hline : (apos.endLine == cpos.line) = true := by rfl) (hs : starEach (e :: es) X.env = (false, eval e X.env) :: starEach es X.env := by rfl) (hplain : (backTo cpos (starEach es X.env)).any (·.1) = false := by rfl) :
    PE X (.Call (.Attribute o name apos) (e :: es) [] cpos) (tBM K T r to t) := by
  subst hK; exact pe_bm pa slot hty hm ho ha hbase hfew hline hs hplain
def dueV : List V := [.str "NotTaken", .str "BadImage", .str "BadLine", .str "Refused", .str "Twice", .str "NoUnit", .str "NoFunction", .str "OtherShape", .str "BadImage", .str "BadLine", .str "Refused"]
theorem due_at {j : Nat} {D : Str} (h : dueL[j]? = some D) : dueV[j]? = some (.str D) := by
  have e : dueV = dueL.map V.str := rfl
  rw [e, List.getElem?_map, h]; rfl
theorem due_ok : ∀ D ∈ dueL, PyData.strOk D = true := by decide +kernel
def spLaw (K : PySem.W.Frag) : Sp := fun vs H Q _ => ∃ (a : Addr) (ns : List Int), vs = [.ref a] ∧ SqL K H a (ns.map V.int) ∧ ns.length ≤ 63 ∧ ∀ H', Q (.bl true) H'
section
variable {P : Program} {w : World} {K : PySem.W.Frag} {mg : Str → Option Value} {base : Heap} (T : Txt K mg) (S : Ext P w K mg)
include T S
theorem ok_law : FnOk P w K mg base CX0 24 (He.ga K "law") T.d_law ["script"] (spLaw K) := by
  have G__law_pool := ok_pool (P := P) (w := w) (base := base) T
  have G__law_draw := ok_draw (P := P) (w := w) (base := base) T
  have G__law_do := ok_do (P := P) (w := w) (base := base) T S
  have G__law_equal := ok_equal (P := P) (w := w) (base := base) T
  have G_image_from_lines := ok_il (P := P) (w := w) (base := base) T S
  have G_judge := ok_judge (P := P) (w := w) (base := base) T S
  refine T.F_law.ok sc_law (fun vs H Q E h => ?_) (fun cdv A outer s H vs Q E hr h => ?_)
  · obtain ⟨a, ns, rfl, _⟩ := h; rfl
  · obtain ⟨a, ns, rfl, hS, hlen, q⟩ := h
    refine ⟨_, PSs.nox (pss_cons (ps_set (i := 1) sc_law.nd rfl (.inl rfl) (pe_call G__law_pool (hr.mono (by omega)) (by rfl) T.g__law_pool T.F__law_pool.kp T.b__law_pool .nil pass0 (pa_cons (pv 0) pa_nil))) (pss_cons (ps_set (i := 2) sc_law.nd rfl (.inl rfl) (pe_call G__law_draw (hr.mono (by omega)) (by rfl) T.g__law_draw T.F__law_draw.kp T.b__law_draw .nil pass0 (pa_cons (pv 1) (pa_cons pe_int pa_nil)))) (pss_cons (ps_set (i := 3) sc_law.nd rfl (.inl rfl) (pe_lst (pa_cons pe_str (pa_cons pe_str (pa_cons pe_str (pa_cons pe_str (pa_cons pe_str (pa_cons pe_str (pa_cons pe_str (pa_cons pe_str (pa_cons pe_str (pa_cons pe_str (pa_cons pe_str pa_nil))))))))))))) (pss_cons (ps_for PassesOwn.never rfl (pi_range1 (by rfl) T.range (pa_cons (pe_callB (r := rLenS K) call_len_seq (by rfl) T.len (by decide +kernel) (pa_cons (pv 3) pa_nil)) pa_nil)) (pg_name (i := 4) sc_law.nd rfl (.inl rfl))
    (pss_one (ps_if (pt_cmpR (r := rNeM K) (op_neM hr.units) (pe_call G__law_do (hr.mono (by omega)) (by rfl) T.g__law_do T.F__law_do.kp T.b__law_do .nil pass0 (pa_cons (pv 4) (pa_cons (pv 2) pa_nil))) (pe_lst (pa_cons (pe_ix (r := rIxL K) ix_list (pv 3) (pv 4) (fun _ _ => rfl)) pa_nil)) (nomark _))
    (pss_one (ps_ret pe_bl))
    pss_nil))) (pss_cons (ps_set (i := 5) sc_law.nd rfl (.inl rfl) (pe_lst pa_nil)) (pss_cons (ps_try_as (i := 6) (c := .ref (He.ga K "Refused")) (tb := fun W => _) (ts := fun a cls d => _) (Wout := fun _ _ _ _ => False) rfl rfl sc_law.nd rfl rfl ⟨rfl, by decide, Or.inl T.g_Refused⟩ takes0
      (fun W pn xe tk _ => (pss_one (ps_raise rfl tk (pmk_oex S.o_Refused S.i_Refused S.t_Refused (S.f_Refused _) (hr.mono (by omega)) S.b_Refused .nil pass0 (by rfl) T.g_Refused (pa_cons pe_str (pa_cons (pv 2) (pa_cons (pe_op op_add (pv 2) pe_int) pa_nil)))))))
      (fun a oe cls d pn hz hf => (pss_one (ps_set (i := 5) sc_law.nd rfl (.inl rfl) (pe_op op_cat (pv 5) (pe_lst (pa_cons (pe_xf (X := (cxOf CX0 P w K mg base ["script", "pool", "number", "due", "way", "seen", "e"] "law" (defScope s_law) (He.ga K "law") cdv A outer s H E).nox) (a := a) (pn := pn) (S.xf "Refused" (by simp)) S.nfK hz hf (pv 6)) (pa_cons (pe_xf (X := (cxOf CX0 P w K mg base ["script", "pool", "number", "due", "way", "seen", "e"] "law" (defScope s_law) (He.ga K "law") cdv A outer s H E).nox) (a := a) (pn := pn) (S.xf "Refused" (by simp)) S.nfF hz hf (pv 6)) (pa_cons (pe_xf (X := (cxOf CX0 P w K mg base ["script", "pool", "number", "due", "way", "seen", "e"] "law" (defScope s_law) (He.ga K "law") cdv A outer s H E).nox) (a := a) (pn := pn) (S.xf "Refused" (by simp)) S.nfA hz hf (pv 6)) pa_nil))))))))) (pss_cons (ps_try_as (i := 6) (c := .ref (He.ga K "Refused")) (tb := fun W => _) (ts := fun a cls d => _) (Wout := fun _ _ _ _ => False) rfl rfl sc_law.nd rfl rfl ⟨rfl, by decide, Or.inl T.g_Refused⟩ takes0
      (fun W pn xe tk _ => (pss_one (ps_expr (pe_callS G_judge (hr.mono (by omega)) (by rfl) T.g_judge T.F_judge.kp T.b_judge (fun σ => passAt tk σ) (pa_cons (pe_tup (pa_cons pe_int (pa_cons (pe_tup (pa_cons (pe_tup (pa_cons pe_str (pa_cons pe_int (pa_cons pe_int (pa_cons pe_int (pa_cons (pe_op (r := rCatA K) op_catA (pe_op (r := R71.rRepA K) R71.op_repA (pe_tup (pa_cons (pe_tup (pa_cons pe_str pa_nil)) pa_nil)) (pv 2)) (pe_tup (pa_cons (pe_tup (pa_cons pe_str (pa_cons pe_int pa_nil))) pa_nil))) (pa_cons (pe_op (r := R71.rRepA K) R71.op_repA (pe_tup (pa_cons pe_int pa_nil)) (pe_op op_add (pv 2) pe_int)) pa_nil))))))) pa_nil)) pa_nil))) pa_nil)))))
      (fun a oe cls d pn hz hf => (pss_one (ps_set (i := 5) sc_law.nd rfl (.inl rfl) (pe_op op_cat (pv 5) (pe_lst (pa_cons (pe_xf (X := (cxOf CX0 P w K mg base ["script", "pool", "number", "due", "way", "seen", "e"] "law" (defScope s_law) (He.ga K "law") cdv A outer s H E).nox) (a := a) (pn := pn) (S.xf "Refused" (by simp)) S.nfK hz hf (pv 6)) (pa_cons (pe_xf (X := (cxOf CX0 P w K mg base ["script", "pool", "number", "due", "way", "seen", "e"] "law" (defScope s_law) (He.ga K "law") cdv A outer s H E).nox) (a := a) (pn := pn) (S.xf "Refused" (by simp)) S.nfF hz hf (pv 6)) (pa_cons (pe_xf (X := (cxOf CX0 P w K mg base ["script", "pool", "number", "due", "way", "seen", "e"] "law" (defScope s_law) (He.ga K "law") cdv A outer s H E).nox) (a := a) (pn := pn) (S.xf "Refused" (by simp)) S.nfA hz hf (pv 6)) pa_nil))))))))) (pss_cons (ps_try_as (i := 6) (c := .ref (He.ga K "BadImage")) (tb := fun W => _) (ts := fun a cls d => _) (Wout := fun _ _ _ _ => False) rfl rfl sc_law.nd rfl rfl ⟨rfl, by decide, Or.inl T.g_BadImage⟩ takes0
      (fun W pn xe tk _ => (pss_one (ps_raise rfl tk (pmk_oex S.o_BadImage S.i_BadImage S.t_BadImage (S.f_BadImage _) (hr.mono (by omega)) S.b_BadImage .nil pass0 (by rfl) T.g_BadImage (pa_cons (pe_op op_add (pv 2) pe_int) pa_nil)))))
      (fun a oe cls d pn hz hf => (pss_one (ps_expr (pe_bmK (K := K) rfl PySem.F.plainAttrs_list PySem.F.slot_list_append PySem.F.type_list_append mt_append (pv 5) (pa_cons (pe_xf (X := (cxOf CX0 P w K mg base ["script", "pool", "number", "due", "way", "seen", "e"] "law" (defScope s_law) (He.ga K "law") cdv A outer s H E).nox) (a := a) (pn := pn) (S.xf "BadImage" (by simp)) S.nfI hz hf (pv 6)) pa_nil)))))) (pss_cons (ps_try_as (i := 6) (c := .ref (He.ga K "BadLine")) (tb := fun W => _) (ts := fun a cls d => _) (Wout := fun _ _ _ _ => False) rfl rfl sc_law.nd rfl rfl ⟨rfl, by decide, Or.inl T.g_BadLine⟩ takes0
      (fun W pn xe tk _ => (pss_one (ps_expr (pe_callS G_image_from_lines (hr.mono (by omega)) (by rfl) T.g_image_from_lines T.F_image_from_lines.kp T.b_image_from_lines (fun σ => passAt tk σ) (pa_cons (pe_op op_cat (pe_lst (pa_cons pe_str pa_nil)) (pe_op op_rep (pe_lst (pa_cons pe_str pa_nil)) (pe_op op_add (pv 2) pe_int))) pa_nil)))))
      (fun a oe cls d pn hz hf => (pss_one (ps_expr (pe_bmK (K := K) rfl PySem.F.plainAttrs_list PySem.F.slot_list_append PySem.F.type_list_append mt_append (pv 5) (pa_cons (pe_xf (X := (cxOf CX0 P w K mg base ["script", "pool", "number", "due", "way", "seen", "e"] "law" (defScope s_law) (He.ga K "law") cdv A outer s H E).nox) (a := a) (pn := pn) (S.xf "BadLine" (by simp)) S.nfL hz hf (pv 6)) pa_nil)))))) (pss_cons (ps_try_as (i := 6) (c := .ref (He.ga K "BadLine")) (tb := fun W => _) (ts := fun a cls d => _) (Wout := fun _ _ _ _ => False) rfl rfl sc_law.nd rfl rfl ⟨rfl, by decide, Or.inl T.g_BadLine⟩ takes0
      (fun W pn xe tk _ => (pss_one (ps_raise rfl tk (pmk_oex S.o_BadLine S.i_BadLine S.t_BadLine (S.f_BadLine _) (hr.mono (by omega)) S.b_BadLine .nil pass0 (by rfl) T.g_BadLine (pa_cons (pe_op op_add (pv 2) pe_int) pa_nil)))))
      (fun a oe cls d pn hz hf => (pss_one (ps_expr (pe_bmK (K := K) rfl PySem.F.plainAttrs_list PySem.F.slot_list_append PySem.F.type_list_append mt_append (pv 5) (pa_cons (pe_xf (X := (cxOf CX0 P w K mg base ["script", "pool", "number", "due", "way", "seen", "e"] "law" (defScope s_law) (He.ga K "law") cdv A outer s H E).nox) (a := a) (pn := pn) (S.xf "BadLine" (by simp)) S.nfL hz hf (pv 6)) pa_nil)))))) (pss_one (ps_ret (pe_call G__law_equal (hr.mono (by omega)) (by rfl) T.g__law_equal T.F__law_equal.kp T.b__law_equal .nil pass0 (pa_cons (pv 5) (pa_cons (pe_lst (pa_cons pe_str (pa_cons (pv 2) (pa_cons (pe_op op_add (pv 2) pe_int) (pa_cons pe_str (pa_cons pe_int (pa_cons (pv 2) (pa_cons (pe_op op_add (pv 2) pe_int) (pa_cons pe_int (pa_cons (pe_op op_add (pv 2) pe_int) pa_nil)))))))))) pa_nil))))))))))))))), ?_⟩
    refine ⟨_, rfl, a, ns, rfl, hS, hlen, fun H1 p c pool1 => ?_⟩
    refine ⟨_, rfl, p, c, 0, 9, rfl, pool1, by omega, by decide, fun H2 n hn9 but2 pool2 => ?_⟩
    have hn : n ≤ 8 := by omega
    clear pool2 but2 pool1 hS
    refine ⟨(by show 11 ≤ sizeLine; decide), fun du hdu => ?_⟩
    refine ⟨_, rfl, du, dueV, rfl, .inl (SqL.of upd_same), ((11 : Nat) : Int), rfl, by decide, by decide, ?_⟩
    refine for_it (walk_range (lo := 0) (n := ((11 : Nat) : Int).toNat)) (fun j σ H' => H' du = some (.lst dueV) ∧ ∃ y, σ = [some (.ref a), some (.ref p), some (.int (n : Nat)), some (.ref du), y, none, none]) ⟨upd_same, _, rfl⟩ (fun _ _ _ _ _ => trivial) (fun j v σ H3 H4 hj hP hy => ?_) (fun σ H3 hP => ?_)
    · obtain ⟨rfl, rfl⟩ := hy
      obtain ⟨hd, y, rfl⟩ := hP
      have hj11 : j < 11 := by simpa using hj
      have hj2 : j < dueL.length := hj11
      obtain ⟨D, hD⟩ : ∃ D, dueL[j]? = some D := ⟨_, List.getElem?_eq_getElem hj2⟩
      have ok := due_ok D (List.mem_of_getElem? hD)
      refine ⟨_, rfl, _, rfl, j, n, D, by simp, hn, hD, fun H5 l s5 hl => ?_⟩
      refine ⟨_, rfl, _, rfl, du, _, _, _, rfl, rfl, SqL.of (s5 _ _ hd), at_v (due_at hD) (by simp), (by show 1 ≤ sizeLine; decide), fun l2 hl2 => ?_⟩
      refine ⟨.list [.str D], .list [.str D], .lst (SqL.of ((Same.one hl2) _ _ hl)) (.cons (.str _) .nil), .lst (SqL.of upd_same) (.cons (.str _) .nil), by simp [PyData.canLay0, PyData.canLayAll0, ok], by simp [PyData.canLay0, PyData.canLayAll0, ok], by simp [PyData.depth, PyData.depthAll], ?_⟩
      have e : PyData.eqv (.list [.str D]) (.list [.str D]) = true := by simp [PyData.eqv, PyData.eqvAll]
      rw [e]
      exact ⟨_, rfl, iteF ⟨(Same.one hl2) _ _ (s5 _ _ hd), _, rfl⟩⟩
    obtain ⟨hd, y, rfl⟩ := hP
    clear hd
    refine ⟨Nat.zero_le _, fun sn hsn => ?_⟩
    have k0 : (upd H3 sn (.lst [])) sn = some (.lst []) := upd_same
    generalize (upd H3 sn (.lst [])) = H4 at k0 ⊢
    refine ⟨_, rfl, _, rfl, _, _, rfl, rfl, (by show 3 ≤ 1000; decide), fun e he => mk_exc (E := WE (wAs K (.ref (He.ga K "Refused")) 6 _ (fun _ _ _ _ => False) _) _) ⟨"box", n, n + 1, rfl, by decide, by omega, by omega⟩ he fun H5 d s5 hx => ⟨true, T.x_Refused_Refused, fun _ b hb => ?_, fun z => nomatch z⟩⟩
    refine ⟨_, rfl, _, rfl, rfl, rfl, d, _, .str "box", rfl, hx, rfl, _, rfl, rfl, rfl, d, _, .int n, rfl, hx, rfl, _, rfl, rfl, rfl, d, _, .int (((n : Nat) : Int) + 1), rfl, hx, rfl, (by show 3 ≤ sizeLine; decide), fun l hl => ?_⟩
    refine ⟨sn, l, [], _, rfl, rfl, (Same.one hl) _ _ (s5 _ _ k0), upd_same, (by show 0 + 3 ≤ sizeLine; decide), fun sn hsn => ?_⟩
    clear hx s5
    have k1 : (upd (upd H5 l (.lst [.str "box", .int n, .int (((n : Nat) : Int) + 1)])) sn (.lst ([] ++ [.str "box", .int n, .int (((n : Nat) : Int) + 1)]))) sn = some (.lst [.str "box", .int n, .int (((n : Nat) : Int) + 1)]) := upd_same
    generalize (upd (upd H5 l (.lst [.str "box", .int n, .int (((n : Nat) : Int) + 1)])) sn (.lst ([] ++ [.str "box", .int n, .int (((n : Nat) : Int) + 1)]))) = H6 at k1 ⊢
    refine ⟨(by show 1 ≤ sizeLine; decide), fun tk htk => ⟨(by show 1 ≤ sizeLine; decide), fun t1 ht1 => ⟨_, rfl, t1, n, [.ref tk], rfl, rfl, SqT.of upd_same, by simp, by omega, by omega, (by show 1 ≤ 1000; decide), fun H4 r s4 g4 => ?_⟩⟩⟩
    rw [rep_one] at g4
    have sa := Same.one (o := .tup [.str "tick"]) htk
    have sb := Same.one (o := .tup [.ref tk]) ht1
    refine ⟨(by show 2 ≤ sizeLine; decide), fun gv hgv => ⟨(by show 1 ≤ sizeLine; decide), fun g1 hg1 => ?_⟩⟩
    have sc := Same.one (o := .tup [.str "give", .int 0]) hgv
    have sd := Same.one (o := .tup [.ref gv]) hg1
    refine catA_any ((sc.trans sd).sqt g4) (SqT.of upd_same) (by rw [sizeLine_eq, List.length_replicate]; show n + 1 ≤ _; omega) fun H5 cd s5 g5 => ?_
    refine ⟨(by show 1 ≤ sizeLine; decide), fun z hz => ⟨_, rfl, _, _, rfl, rfl, z, _, [.int 0], rfl, rfl, SqT.of upd_same, by simp, by omega, by omega, (by show 1 ≤ 1000; decide), fun H6 pl2 s6 g6 => ?_⟩⟩
    have se := Same.one (o := .tup [.int 0]) hz
    refine ⟨(by show 6 ≤ sizeLine; decide), fun f hf => ⟨(by show 1 ≤ sizeLine; decide), fun fs hfs => ⟨(by show 2 ≤ sizeLine; decide), fun p hp => ?_⟩⟩⟩
    have sf := Same.one (o := .tup [.str "a.f", .int 0, .int 0, .int 0, .ref cd, .ref pl2]) hf
    have sg := Same.one (o := .tup [.ref f]) hfs
    have sh := Same.one (o := .tup [.int 4, .ref fs]) hp
    have s8 := (sf.trans sg).trans sh
    have s7 := (se.trans s6).trans s8
    have s9 := ((sc.trans sd).trans s5).trans s7
    refine ⟨p, fs, f, cd, tk, gv, n, rfl, SqT.of upd_same, ⟨sqt_new (sh _ _ upd_same), ⟨.ref pl2, sqt_new ((sg.trans sh) _ _ upd_same)⟩, s7.sqt g5, sqt_new (s9 _ _ (s4 _ _ (sb _ _ upd_same))), sqt_new (((sd.trans s5).trans s7) _ _ upd_same), hn⟩, fun H7 d s10 hx => ⟨true, T.x_Refused_Refused, fun _ b hb => ?_, fun z => nomatch z⟩⟩
    have k2 := (((((sa.trans sb).trans s4).trans s9).trans s10)) _ _ k1
    clear k1 sa sb s4 s9 s7 s8 sh sg sf se s6 g6 g5 s5 sd sc g4
    refine ⟨_, rfl, _, rfl, rfl, rfl, d, _, .str "empty", rfl, hx, rfl, _, rfl, rfl, rfl, d, _, .int 0, rfl, hx, rfl, _, rfl, rfl, rfl, d, _, .int n, rfl, hx, rfl, (by show 3 ≤ sizeLine; decide), fun l hl => ?_⟩
    refine ⟨sn, l, [.str "box", .int n, .int (((n : Nat) : Int) + 1)], _, rfl, rfl, (Same.one hl) _ _ k2, upd_same, (by show 3 + 3 ≤ sizeLine; decide), fun sn hsn => ?_⟩
    clear hx k2
    have k3 : (upd (upd H7 l (.lst [.str "empty", .int 0, .int n])) sn (.lst ([.str "box", .int n, .int (((n : Nat) : Int) + 1)] ++ [.str "empty", .int 0, .int n]))) sn = some (.lst [.str "box", .int n, .int (((n : Nat) : Int) + 1), .str "empty", .int 0, .int n]) := upd_same
    generalize (upd (upd H7 l (.lst [.str "empty", .int 0, .int n])) sn (.lst ([.str "box", .int n, .int (((n : Nat) : Int) + 1)] ++ [.str "empty", .int 0, .int n]))) = H8 at k3 ⊢
    refine ⟨_, rfl, _, _, rfl, rfl, (by show 1 ≤ 1000; decide), fun e he => mk_exc (E := WE (wAs K (.ref (He.ga K "BadImage")) 6 _ (fun _ _ _ _ => False) _) _) ⟨_, rfl, by omega⟩ he fun H9 d s9 hx => ⟨true, T.x_BadImage_BadImage, fun _ b hb => ?_, fun z => nomatch z⟩⟩
    have k4 := s9 _ _ k3
    refine ⟨_, rfl, .inl ⟨rfl, _, SqL.of k4⟩, _, rfl, rfl, rfl, d, _, .int (((n : Nat) : Int) + 3), rfl, hx, rfl, sn, [.str "box", .int n, .int (((n : Nat) : Int) + 1), .str "empty", .int 0, .int n], _, rfl, rfl, k4, (by show 6 < sizeLine; decide), ?_⟩
    clear hx
    have k5 : (upd H9 sn (.lst ([.str "box", .int n, .int (((n : Nat) : Int) + 1), .str "empty", .int 0, .int n] ++ [.int (((n : Nat) : Int) + 3)]))) sn = some (.lst [.str "box", .int n, .int (((n : Nat) : Int) + 1), .str "empty", .int 0, .int n, .int (((n : Nat) : Int) + 3)]) := upd_same
    generalize (upd H9 sn (.lst ([.str "box", .int n, .int (((n : Nat) : Int) + 1), .str "empty", .int 0, .int n] ++ [.int (((n : Nat) : Int) + 3)]))) = H10 at k5 ⊢
    refine ⟨(by show 1 ≤ sizeLine; decide), fun l hl => ⟨(by show 1 ≤ sizeLine; decide), fun l2 hl2 => ⟨_, rfl, _, _, rfl, rfl, l2, _, [.str "x"], rfl, rfl, upd_same, by omega, by omega, by rw [sizeLine_eq]; show 1 * _ ≤ _; omega, fun l3 hl3 => ?_⟩⟩⟩
    have sa := Same.one (o := .lst [.str "image 4 0"]) hl
    have sb := Same.one (o := .lst [.str "x"]) hl2
    have sc := Same.one (o := .lst (List.replicate (((n : Nat) : Int) + 1).toNat [V.str "x"]).flatten) hl3
    refine ⟨l, l3, _, _, rfl, rfl, sc _ _ (sb _ _ upd_same), upd_same, by rw [rep_one1, sizeLine_eq, List.length_replicate]; show 1 + (n + 1) ≤ _; omega, fun l4 hl4 => ?_⟩
    have sd := Same.one (o := .lst ([V.str "image 4 0"] ++ (List.replicate (((n : Nat) : Int) + 1).toNat [V.str "x"]).flatten)) hl4
    refine ⟨l4, n, rfl, ?_, hn, fun H11 d s11 hx => ⟨true, T.x_BadLine_BadLine, fun _ b hb => ?_, fun z => nomatch z⟩⟩
    · have e : linesN n = [V.str "image 4 0"] ++ (List.replicate (((n : Nat) : Int) + 1).toNat [V.str "x"]).flatten := by rw [rep_one1]; rfl
      rw [e]; exact SqL.of upd_same
    have k6 := ((((sa.trans sb).trans sc).trans sd).trans s11) _ _ k5
    clear sa sb sc sd s11
    refine ⟨_, rfl, .inl ⟨rfl, _, SqL.of k6⟩, _, rfl, rfl, rfl, d, _, .int 1, rfl, hx, rfl, sn, [.str "box", .int n, .int (((n : Nat) : Int) + 1), .str "empty", .int 0, .int n, .int (((n : Nat) : Int) + 3)], _, rfl, rfl, k6, (by show 7 < sizeLine; decide), ?_⟩
    clear hx
    have k7 : (upd H11 sn (.lst ([.str "box", .int n, .int (((n : Nat) : Int) + 1), .str "empty", .int 0, .int n, .int (((n : Nat) : Int) + 3)] ++ [.int 1]))) sn = some (.lst [.str "box", .int n, .int (((n : Nat) : Int) + 1), .str "empty", .int 0, .int n, .int (((n : Nat) : Int) + 3), .int 1]) := upd_same
    generalize (upd H11 sn (.lst ([.str "box", .int n, .int (((n : Nat) : Int) + 1), .str "empty", .int 0, .int n, .int (((n : Nat) : Int) + 3)] ++ [.int 1]))) = H12 at k7 ⊢
    refine ⟨_, rfl, _, _, rfl, rfl, (by show 1 ≤ 1000; decide), fun e he => mk_exc (E := WE (wAs K (.ref (He.ga K "BadLine")) 6 _ (fun _ _ _ _ => False) _) _) ⟨_, rfl, by omega⟩ he fun H13 d s13 hx => ⟨true, T.x_BadLine_BadLine, fun _ b hb => ?_, fun z => nomatch z⟩⟩
    have k8 := s13 _ _ k7
    refine ⟨_, rfl, .inl ⟨rfl, _, SqL.of k8⟩, _, rfl, rfl, rfl, d, _, .int (((n : Nat) : Int) + 5), rfl, hx, rfl, sn, [.str "box", .int n, .int (((n : Nat) : Int) + 1), .str "empty", .int 0, .int n, .int (((n : Nat) : Int) + 3), .int 1], _, rfl, rfl, k8, (by show 8 < sizeLine; decide), ?_⟩
    clear hx
    have k9 : (upd H13 sn (.lst ([.str "box", .int n, .int (((n : Nat) : Int) + 1), .str "empty", .int 0, .int n, .int (((n : Nat) : Int) + 3), .int 1] ++ [.int (((n : Nat) : Int) + 5)]))) sn = some (.lst [.str "box", .int n, .int (((n : Nat) : Int) + 1), .str "empty", .int 0, .int n, .int (((n : Nat) : Int) + 3), .int 1, .int (((n : Nat) : Int) + 5)]) := upd_same
    generalize (upd H13 sn (.lst ([.str "box", .int n, .int (((n : Nat) : Int) + 1), .str "empty", .int 0, .int n, .int (((n : Nat) : Int) + 3), .int 1] ++ [.int (((n : Nat) : Int) + 5)]))) = H14 at k9 ⊢
    refine ⟨_, rfl, _, rfl, _, rfl, _, _, rfl, rfl, _, rfl, _, rfl, _, _, rfl, rfl, _, rfl, _, _, rfl, rfl, (by show 9 ≤ sizeLine; decide), fun dl hdl => ?_⟩
    refine ⟨sn, dl, _, rfl, (Same.one hdl) _ _ k9, upd_same, ?_, (by show 9 ≤ 20; decide), q _⟩
    intro v hv
    simp only [List.mem_append, List.mem_cons, List.not_mem_nil, or_false] at hv
    rcases hv with rfl | rfl | rfl | rfl | rfl | rfl | rfl | rfl | rfl
    all_goals first
      | exact .inl ⟨_, rfl⟩
      | exact .inr ⟨_, rfl, by decide +kernel⟩
end
end K71

set_option Elab.async false
set_option linter.all false
set_option maxRecDepth 100000
set_option maxHeartbeats 4000000
/-! k71: the head's facts, as Ext wants them -/
namespace K71
open PySem PySem.Spec PyProof.Rows L2
theorem ba {a b : Bool} (h : (a && b) = true) : a = true ∧ b = true := Bool.and_eq_true_iff.mp h
theorem oex_ok {K : PySem.W.Frag} {C : Addr} (h : oex2B K C = true) : OexC K C := by
  obtain ⟨h0, h⟩ := ba h
  obtain ⟨h1, h⟩ := ba h
  obtain ⟨h2, h⟩ := ba h
  obtain ⟨h3, h4⟩ := ba h
  refine ⟨?_, of_decide_eq_true h1, of_decide_eq_true h2, of_decide_eq_true h3, h4⟩
  unfold oexB at h0
  split at h0
  · rename_i dd cd sl ho
    split at h0
    · rename_i C' bm k0 k1 k2 k3 n k5 hm hs
      obtain ⟨g1, h0⟩ := ba h0
      obtain ⟨g2, h0⟩ := ba h0
      obtain ⟨g3, h0⟩ := ba h0
      obtain ⟨g4, g5⟩ := ba h0
      have e1 := of_decide_eq_true g1
      have e2 := of_decide_eq_true g2
      subst e1 e2
      obtain ⟨nm, bs, mro, ns, qn, hd, sn, sub, ab, col, del⟩ := cd
      dsimp only at hm g3 g4
      have g3' : del = false := by cases del <;> first | rfl | cases g3
      subst hm g3' g4
      have hsl : sl = #[k0, k1, k2, k3, some (.builtin "ValueError.__new__"), k5] := by
        obtain ⟨l⟩ := sl
        simp only at hs
        rw [hs]
      subst hsl
      exact ⟨nm, qn, ns, bs, bm, sn, sub, ab, col, dd, k0, k1, k2, k3, k5, ho, g5⟩
    · cases h0
  · cases h0
theorem cell_ok {K : PySem.W.Frag} {cc C : Addr} (h : cellB K cc C = true) : ∃ cl cld csl, K.lookup cc = some ⟨cl, cld, .cell (some (.ref C)), csl⟩ := by
  unfold cellB at h
  split at h
  · rename_i cl cld D csl ho
    have e := of_decide_eq_true h
    subst e
    exact ⟨_, _, _, ho⟩
  · cases h
theorem file_ok {K : PySem.W.Frag} {cda : Addr} {file : Str} (h : fileB K cda file = true) : ∃ ccl cdd ccs vs f tf, K.lookup cda = some ⟨ccl, cdd, .fields vs, ccs⟩ ∧ vs[2]? = some (.str f tf) ∧ (file == f) = true := by
  unfold fileB at h
  split at h
  · rename_i ccl cdd vs ccs ho
    split at h
    · rename_i f tf hv
      exact ⟨_, _, _, _, _, _, ho, hv, h⟩
    · cases h
  · cases h
theorem sup_ok {P : Program} {K : PySem.W.Frag} {p : Str × Str × Stmt} (h : supB P K p = true) (e : supObs K p.1 = supVal p) (ho : PySem.W.nsIn K cStatics "thirdparty.any" = some none) (ht : (P.main.scope.names.lookup ("super" : Str)).isSome = false) :
    ∃ oc od osl doc pm an cda ct cc, K.lookup (iA K p.1) = some ⟨oc, od, .func (PySem.W.ksFn "__init__" p.2.1 (defArgs p.2.2) (defBody p.2.2) (defScope p.2.2) .none .none doc pm an (.ref cda) ct cc), osl⟩ ∧ PySem.W.codeIn K (.ref cda) p.2.1 = true ∧ KS.SupT P K (He.ga K p.1) cc cda ∧
      PySem.W.findIn K (.ref (He.ga K p.1)) "__init__" = some (some (.ref (iA K p.1))) ∧ PySem.W.typeIn K (.ref (iA K p.1)) = some (.type "function") ∧ XfC K (He.ga K p.1) := by
  obtain ⟨h1, h⟩ := ba h
  obtain ⟨h2, h⟩ := ba h
  obtain ⟨h3, h⟩ := ba h
  obtain ⟨h4, h⟩ := ba h
  obtain ⟨h5, h⟩ := ba h
  obtain ⟨h6, h⟩ := ba h
  obtain ⟨h7, h8⟩ := ba h
  unfold supObs at e
  unfold cloB at h2
  cases q : K.lookup (iA K p.1) with
  | none => rw [q] at h2; cases h2
  | some o =>
    obtain ⟨oc, od, dt, osl⟩ := o
    rw [q] at h2 e
    cases dt with
    | func fd =>
      obtain ⟨n1, n2, n3, n4, n5, n6, n7, n8, n9, n10, n11, n12, n13, n14, n15⟩ := fd
      have e2 : (some (n1, n2, n3, n4, n5, n6, n8, n9, n15) : SupV) = (some (("__init__" : Str), p.2.1, defArgs p.2.2, FuncBody.stmts (defBody p.2.2), defScope p.2.2, mainGlobals, Value.none, Value.none, builtinsNs) : SupV) := e
      simp only [Option.some.injEq, Prod.mk.injEq] at e2
      obtain ⟨g1, g2, g3, g4, g5, g6, g7, g8, g9⟩ := e2
      subst g1 g2 g3 g4 g5 g6 g7 g8 g9
      dsimp only at h2
      split at h2
      · rename_i n cc cda
        obtain ⟨k1, h2⟩ := ba h2
        obtain ⟨k2, h2⟩ := ba h2
        obtain ⟨k3, k4⟩ := ba h2
        have e1 := of_decide_eq_true k1
        subst e1
        exact ⟨oc, od, osl, n10, n11, n12, cda, n14, cc, rfl, k3, ⟨cell_ok k2, file_ok k4, of_decide_eq_true h3, of_decide_eq_true h4, of_decide_eq_true h5, ho, ht, oex_ok h1⟩, of_decide_eq_true h6, of_decide_eq_true h7, xfB_ok h8⟩
      · cases h2
    | _ => cases h2
theorem len7 {i : Int} (h : i.natAbs < 10000000) : (Str.ofString (toString i)).length ≤ 8 := by
  have e := int_text_length_le10 (k := 7) (by decide) h
  rw [PySem.ofString_length]; omega
theorem log7 {i : Int} (h : i.natAbs < 10000000) : i.natAbs.log2 < 1920 := by
  by_cases h0 : i.natAbs = 0
  · rw [h0]; decide
  · exact (Nat.log2_lt h0).mpr (Nat.lt_of_lt_of_le h (by decide +kernel))
section
variable {P : Program} {w : World} {K : PySem.W.Frag} {mg : Str → Option Value}
theorem str_fit {a b : Str} {i : Int} (h : i.natAbs < 10000000) (ha : a.length ≤ 1000) (hb : b.length ≤ 1000) : (a ++ Str.ofString (toString i)).length ≤ sizeLine ∧ (a ++ Str.ofString (toString i) ++ b).length ≤ sizeLine := by
  have e := len7 h
  rw [sizeLine_eq]
  constructor
  · rw [strLen_append]; omega
  · rw [strLen_append, strLen_append]; omega
theorem ok_BI (T : Txt K mg) (h : supB P K ("BadImage", "BadImage.__init__", s_BadImage___init__) = true) (e : supObs K "BadImage" = supVal ("BadImage", "BadImage.__init__", s_BadImage___init__)) (ho : PySem.W.nsIn K cStatics "thirdparty.any" = some none) (ht : (P.main.scope.names.lookup ("super" : Str)).isSome = false)
    (hnf : PySem.W.findIn K (.ref (He.ga K "BadImage")) "at" = some none) :
    ∃ fd, (∀ base : Heap, FnOk P w K mg base CX0 6 (iA K "BadImage") fd ["self", "at"] (spExc (He.ga K "BadImage") okI fsAt)) ∧ Binds K fd ["self", "at"] [] := by
  obtain ⟨oc, od, osl, doc, pm, an, cda, ct, cc, lk, hcd, TS, _⟩ := sup_ok h e ho ht
  refine ⟨_, fun base => KS.fn_sup (N := ["self", "at", "__class__"]) lk hcd TS (NdefX.nscope_by (by decide +kernel)) rfl rfl (by decide) T.super (by decide +kernel) (fun vs H Q E h => ?_) (fun _ => rfl) (fun _ => rfl) (fun _ => rfl) (fun _ => rfl) (fun A outer s H vs Q E hr h => ?_), .all (fun us hl => match us, hl with | [_, _], _ => rfl)⟩
  · obtain ⟨a, ws, rfl, ⟨i, rfl, _⟩, _⟩ := h; rfl
  · obtain ⟨a, ws, rfl, ⟨i, rfl, hi⟩, ha, q⟩ := h
    refine ⟨_, _, a, rfl, ha, pe_joined (.cons pe_str (.cons (pe_fmt (pv 1)) (.cons pe_str .nil))), pss_one (ps_ost (pv 0) (pv 1)), ?_⟩
    have fit := fun (a b : Str) (h1 : a.length ≤ 1000) (h2 : b.length ≤ 1000) => str_fit hi h1 h2
    refine ⟨_, rfl, (by decide +kernel), _, rfl, .inr ⟨i, rfl, log7 hi, _, rfl, (fit _ " is wrong" (by decide +kernel) (by decide +kernel)).1, _, rfl, (fit _ _ (by decide +kernel) (by decide +kernel)).2, ha, ?_⟩⟩
    exact ⟨_, rfl, _, rfl, a, _, rfl, TS.oex, hnf, .inl ⟨ha, fun dx hd hne => q _ dx hd hne upd_same (by rw [upd_ne hne, upd_same]; rfl) (fun b h1 h2 => by rw [upd_ne h1, upd_ne h2])⟩⟩
theorem ok_BL (T : Txt K mg) (h : supB P K ("BadLine", "BadLine.__init__", s_BadLine___init__) = true) (e : supObs K "BadLine" = supVal ("BadLine", "BadLine.__init__", s_BadLine___init__)) (ho : PySem.W.nsIn K cStatics "thirdparty.any" = some none) (ht : (P.main.scope.names.lookup ("super" : Str)).isSome = false)
    (hnf : PySem.W.findIn K (.ref (He.ga K "BadLine")) "line" = some none) :
    ∃ fd, (∀ base : Heap, FnOk P w K mg base CX0 6 (iA K "BadLine") fd ["self", "line"] (spExc (He.ga K "BadLine") okI fsLine)) ∧ Binds K fd ["self", "line"] [] := by
  obtain ⟨oc, od, osl, doc, pm, an, cda, ct, cc, lk, hcd, TS, _⟩ := sup_ok h e ho ht
  refine ⟨_, fun base => KS.fn_sup (N := ["self", "line", "__class__"]) lk hcd TS (NdefX.nscope_by (by decide +kernel)) rfl rfl (by decide) T.super (by decide +kernel) (fun vs H Q E h => ?_) (fun _ => rfl) (fun _ => rfl) (fun _ => rfl) (fun _ => rfl) (fun A outer s H vs Q E hr h => ?_), .all (fun us hl => match us, hl with | [_, _], _ => rfl)⟩
  · obtain ⟨a, ws, rfl, ⟨i, rfl, _⟩, _⟩ := h; rfl
  · obtain ⟨a, ws, rfl, ⟨i, rfl, hi⟩, ha, q⟩ := h
    refine ⟨_, _, a, rfl, ha, pe_joined (.cons pe_str (.cons (pe_fmt (pv 1)) (.cons pe_str .nil))), pss_one (ps_ost (pv 0) (pv 1)), ?_⟩
    have fit := fun (a b : Str) (h1 : a.length ≤ 1000) (h2 : b.length ≤ 1000) => str_fit hi h1 h2
    refine ⟨_, rfl, (by decide +kernel), _, rfl, .inr ⟨i, rfl, log7 hi, _, rfl, (fit _ " is wrong" (by decide +kernel) (by decide +kernel)).1, _, rfl, (fit _ _ (by decide +kernel) (by decide +kernel)).2, ha, ?_⟩⟩
    exact ⟨_, rfl, _, rfl, a, _, rfl, TS.oex, hnf, .inl ⟨ha, fun dx hd hne => q _ dx hd hne upd_same (by rw [upd_ne hne, upd_same]; rfl) (fun b h1 h2 => by rw [upd_ne h1, upd_ne h2])⟩⟩
theorem ok_RF (T : Txt K mg) (h : supB P K ("Refused", "Refused.__init__", s_Refused___init__) = true) (e : supObs K "Refused" = supVal ("Refused", "Refused.__init__", s_Refused___init__)) (ho : PySem.W.nsIn K cStatics "thirdparty.any" = some none) (ht : (P.main.scope.names.lookup ("super" : Str)).isSome = false)
    (h1 : PySem.W.findIn K (.ref (He.ga K "Refused")) "kind" = some none) (h2 : PySem.W.findIn K (.ref (He.ga K "Refused")) "function" = some none) (h3 : PySem.W.findIn K (.ref (He.ga K "Refused")) "at" = some none) :
    ∃ fd, (∀ base : Heap, FnOk P w K mg base CX0 6 (iA K "Refused") fd ["self", "kind", "function", "at"] (spExc (He.ga K "Refused") okR fsRef)) ∧ Binds K fd ["self", "kind", "function", "at"] [] := by
  obtain ⟨oc, od, osl, doc, pm, an, cda, ct, cc, lk, hcd, TS, _⟩ := sup_ok h e ho ht
  refine ⟨_, fun base => KS.fn_sup (N := ["self", "kind", "function", "at", "__class__"]) lk hcd TS (NdefX.nscope_by (by decide +kernel)) rfl rfl (by decide) T.super (by decide +kernel) (fun vs H Q E h => ?_) (fun _ => rfl) (fun _ => rfl) (fun _ => rfl) (fun _ => rfl) (fun A outer s H vs Q E hr h => ?_), .all (fun us hl => match us, hl with | [_, _, _, _], _ => rfl)⟩
  · obtain ⟨a, ws, rfl, ⟨k, f, i, rfl, _⟩, _⟩ := h; rfl
  · obtain ⟨a, ws, rfl, ⟨k, f, i, rfl, hk, hf, hi⟩, ha, q⟩ := h
    refine ⟨_, _, a, rfl, ha, pe_joined (.cons (pe_fmt (pv 1)) (.cons pe_str (.cons (pe_fmt (pv 2)) (.cons pe_str (.cons (pe_fmt (pv 3)) .nil))))), pss_cons (ps_ost (pv 0) (pv 1)) (pss_cons (ps_ost (pv 0) (pv 2)) (pss_one (ps_ost (pv 0) (pv 3)))), ?_⟩
    have l1 := len7 hf
    have l2 := len7 hi
    have l3 : (" in function " : Str).length = 13 := by decide +kernel
    have l4 : (" at " : Str).length = 4 := by decide +kernel
    have l0 : Str.empty.length = 0 := by decide +kernel
    refine ⟨_, rfl, .inl ⟨k, rfl, by rw [sizeLine_eq]; omega, _, rfl, by rw [sizeLine_eq, strLen_append]; omega, _, rfl, by rw [sizeLine_eq, strLen_append, strLen_append]; omega, _, rfl, .inr ⟨f, rfl, log7 hf, _, rfl, by rw [sizeLine_eq, strLen_append, strLen_append, strLen_append]; omega, _, rfl, by rw [sizeLine_eq, strLen_append, strLen_append, strLen_append, strLen_append]; omega, _, rfl, .inr ⟨i, rfl, log7 hi, _, rfl, by rw [sizeLine_eq, strLen_append, strLen_append, strLen_append, strLen_append, strLen_append]; omega, ha, ?_⟩⟩⟩⟩
    refine ⟨_, rfl, _, rfl, a, _, rfl, TS.oex, h1, .inl ⟨ha, fun dx hd hne => ?_⟩⟩
    refine ⟨_, rfl, _, rfl, a, _, rfl, TS.oex, h2, .inr ⟨dx, _, upd_same, by rw [upd_ne hne, upd_same], (by show 1 ≤ 900; decide), ?_⟩⟩
    refine ⟨_, rfl, _, rfl, a, _, rfl, TS.oex, h3, .inr ⟨dx, _, by rw [upd_ne (Ne.symm hne)]; exact upd_same, upd_same, (by show 2 ≤ 900; decide), ?_⟩⟩
    refine q _ dx hd hne ?_ upd_same (fun b h1 h2 => by rw [upd_ne h2, upd_ne h2, upd_ne h1, upd_ne h2])
    rw [upd_ne (Ne.symm hne), upd_ne (Ne.symm hne)]; exact upd_same
end
section
variable {w : World} {K : PySem.W.Frag} {mg : Str → Option Value}
theorem ec_ok {D : Addr} (h : ecB K D = true) : ExcC K D := by
  obtain ⟨h1, h⟩ := ba h
  obtain ⟨h2, h⟩ := ba h
  obtain ⟨h3, h⟩ := ba h
  obtain ⟨h4, h5⟩ := ba h
  have x := xfB_ok h1
  exact ⟨x.ga, x.gg, x.exC, x.hdC, of_decide_eq_true h2, of_decide_eq_true h3, of_decide_eq_true h4, of_decide_eq_true h5⟩
theorem ext_of {h : Heap} (X : K.In h) (G : h.Ns mainGlobals mg) (c : SaysS RR.prog w K) : Nonempty (Txt K mg) ∧ Nonempty (Ext RR.prog w K mg) := by
  obtain ⟨x1, x⟩ := ba c.x
  obtain ⟨x2, x⟩ := ba x
  obtain ⟨x3, x⟩ := ba x
  obtain ⟨x4, x⟩ := ba x
  obtain ⟨x5, x⟩ := ba x
  obtain ⟨x6, x7⟩ := ba x
  have ho := of_decide_eq_true x7
  have ht : (RR.prog.main.scope.names.lookup ("super" : Str)).isSome = false := by kernel_rfl
  obtain ⟨T⟩ := txt_of X G (He.SaysT.d c.t) x1
  have sB : ∀ (i : Nat) {p : Str × Str × Stmt}, supL[i]? = some p → supB RR.prog K p = true := fun i p h => List.all_eq_true.mp x4 p (List.mem_of_getElem? h)
  have sO : ∀ (i : Nat) {p : Str × Str × Stmt}, supL[i]? = some p → supObs K p.1 = supVal p := fun i p h => by
    have e2 : (supL.map fun p => supObs K p.1)[i]? = (supL.map supVal)[i]? := by rw [c.s]
    rw [List.getElem?_map, List.getElem?_map, h] at e2
    exact Option.some.inj e2
  have nf : ∀ p ∈ ([(("BadImage" : Str), ("at" : Str)), ("BadLine", "line"), ("Refused", "kind"), ("Refused", "function"), ("Refused", "at")] : List (Str × Str)), PySem.W.findIn K (.ref (He.ga K p.1)) p.2 = some none := fun p hp => of_decide_eq_true (List.all_eq_true.mp x6 p hp)
  have n1 := nf ("BadImage", "at") (by simp)
  have n2 := nf ("BadLine", "line") (by simp)
  have n3 := nf ("Refused", "kind") (by simp)
  have n4 := nf ("Refused", "function") (by simp)
  have n5 := nf ("Refused", "at") (by simp)
  obtain ⟨d1, f1, b1⟩ := ok_BI (w := w) T (sB 0 rfl) (sO 0 (p := ("BadImage", "BadImage.__init__", s_BadImage___init__)) rfl) ho ht n1
  obtain ⟨d2, f2, b2⟩ := ok_RF (w := w) T (sB 1 rfl) (sO 1 (p := ("Refused", "Refused.__init__", s_Refused___init__)) rfl) ho ht n3 n4 n5
  obtain ⟨d3, f3, b3⟩ := ok_BL (w := w) T (sB 2 rfl) (sO 2 (p := ("BadLine", "BadLine.__init__", s_BadLine___init__)) rfl) ho ht n2
  obtain ⟨_, _, _, _, _, _, _, _, _, _, _, s1, i1, t1, y1⟩ := sup_ok (sB 0 rfl) (sO 0 (p := ("BadImage", "BadImage.__init__", s_BadImage___init__)) rfl) ho ht
  obtain ⟨_, _, _, _, _, _, _, _, _, _, _, s2, i2, t2, y2⟩ := sup_ok (sB 1 rfl) (sO 1 (p := ("Refused", "Refused.__init__", s_Refused___init__)) rfl) ho ht
  obtain ⟨_, _, _, _, _, _, _, _, _, _, _, s3, i3, t3, y3⟩ := sup_ok (sB 2 rfl) (sO 2 (p := ("BadLine", "BadLine.__init__", s_BadLine___init__)) rfl) ho ht
  have kk : ∀ D ∈ allX, ecB K (He.ga K D) = true ∧ (∀ C ∈ allX, PySem.W.kitOne K (.ref (He.ga K D)) (.ref (He.ga K C)) = some (decide (D = C))) ∧ PySem.W.kitOne K (.ref (He.ga K D)) (.type "ValueError") = some true := fun D hD => by
    have z := List.all_eq_true.mp x5 D hD
    obtain ⟨z1, z3⟩ := ba z
    obtain ⟨z1, z2⟩ := ba z1
    exact ⟨z1, fun C hC => of_decide_eq_true (List.all_eq_true.mp z2 C hC), of_decide_eq_true z3⟩
  refine ⟨⟨T⟩, ⟨{ kO := c.t.tab 0, vO := He.valsB_ok x2 (q := ("tick", .str "")) (by simp), kP := c.t.tab 1, vPt := He.valsB_ok x3 (q := ("tick", .str "")) (by simp), vPg := He.valsB_ok x3 (q := ("give", .str "b")) (by simp), d_BadImage := d1, f_BadImage := f1, b_BadImage := b1, o_BadImage := s1.oex, i_BadImage := i1, t_BadImage := t1, d_BadLine := d3, f_BadLine := f3, b_BadLine := b3, o_BadLine := s3.oex, i_BadLine := i3, t_BadLine := t3, d_Refused := d2, f_Refused := f2, b_Refused := b2, o_Refused := s2.oex, i_Refused := i2, t_Refused := t2, ec := fun D hD => ec_ok (kk D hD).1, ki := fun D hD => (kk D hD).2.1, kv := fun D hD => (kk D hD).2.2, xf := fun D hD => ?_, nfI := n1, nfL := n2, nfK := n3, nfF := n4, nfA := n5 }⟩⟩
  simp only [List.mem_cons, List.not_mem_nil, or_false] at hD
  rcases hD with rfl | rfl | rfl
  · exact y1
  · exact y3
  · exact y2
end
end K71

set_option Elab.async false
set_option linter.all false
set_option maxRecDepth 100000
set_option maxHeartbeats 0
namespace K71
open PySem PySem.Spec PyProof.Rows L2
theorem law_of {w : World} {K : PySem.W.Frag} {h : Heap} {mg : Str → Option Value} {f : Addr} (X : K.In h) (G : h.Ns mainGlobals mg) (hfa : mg ("law" : Str) = some (.ref f)) (c : SaysS RR.prog w K) :
    ∃ fd : FuncData, (∀ (s : Shared) (v : Value), BindsTo s fd ⟨[v], []⟩ [("script", v)]) ∧ ∀ base : Heap, K.In base → base.Ns mainGlobals mg → FnOk RR.prog w K mg base CX0 24 f fd ["script"] (spLaw K) := by
  obtain ⟨⟨T⟩, ⟨S⟩⟩ := ext_of X G c
  have e := hfa.symm.trans T.g_law
  cases e
  have b := FunD.bindsA (ps := ["script"]) T.F_law fun _ _ _ _ _ _ us hl => match us, hl with | [_], _ => rfl
  exact ⟨T.d_law, fun s v => b s [v] rfl, fun base _ _ => ok_law T S⟩
end K71
open PySem PySem.W PySem.Calls PyProof.Rows in
theorem PySem.Challenge.cw_wholedown_k71_errors_of_the_lower_half_holds : PySem.Challenge.rw_wholedown_k71_errors_of_the_lower_half.Holds := by
  w_on; o_law
  refine HandSHeadRun.head_any (r := OpenLaw.row PySem.Challenge.rw_wholedown_k71_errors_of_the_lower_half) (q := view (OpenLaw.row PySem.Challenge.rw_wholedown_k71_errors_of_the_lower_half).prog [134]) (H := K71.hk) (ob := K71.ob) (M := 20000) (loose := K71.looseN) (d := HandSHeadRun.topDef (OpenLaw.row PySem.Challenge.rw_wholedown_k71_errors_of_the_lower_half).prog 134) (kwd := []) K71.ob_eq
    (by kernel_rfl) (fun s => by kernel_rfl) K71.run (by kernel_rfl) (by kernel_rfl) (by kernel_rfl) (by rfl) (by first | assumption | decide +kernel) (by decide +kernel) ⟨rfl, rfl, rfl, rfl, rfl, by decide +kernel⟩ ?hw ?hc
  case hw => w_witness2
  case hc =>
    refine L2.walk_ofE (l := PySem.Challenge.rw_wholedown_k71_errors_of_the_lower_half) (n := 63) (k := 24) (x := "script") (CX := L2.CX0) rfl (by decide) (by kernel_rfl) ⟨rfl, by decide, by decide⟩ ?F (fun _ _ _ _ z => z)
    intro w mg fa h Y G hmg0
    obtain ⟨K, KX, c⟩ := Y
    have hmg : mg ("law" : PySem.Str) = some (.ref fa) := by
      have e : (HandSHeadRun.topDef (OpenLaw.row PySem.Challenge.rw_wholedown_k71_errors_of_the_lower_half).prog 134).name = ("law" : PySem.Str) := by kernel_rfl
      rw [← e]
      exact hmg0
    obtain ⟨fd, hb, hF⟩ := K71.law_of (w := w) KX G hmg c
    exact ⟨K, fd, K71.spLaw K, KX, hb, fun H a ns hl _ hS => ⟨a, ns, rfl, hS, hl, fun _ => rfl⟩, hF⟩

