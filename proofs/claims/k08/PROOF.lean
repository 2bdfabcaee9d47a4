import PyProof.Rows.All
import HandS.ForMost
import HandS.Lambda
import HandS.Nested
import HandS.ExcInit
import HandS.ExcField
import HandS.ExcSuper
import KE.KSuper
import KE.KExcSuper
import HandS.Wide
import HandS.Deep
import HandS.Flow
import HandS.IsInst
import HandS.More
import HandS.RaiseMore
import HandS.CallSlots
import HandS.Defaults
import HandS.Walk
import HandS.Zip
import HandS.TryMany
import HandS.Small
import HandS.Exc
import HandS.Iter
import HandS.Replace
import HandS.ListItems
import PyProof.ReprRoads
import Wide.All
import OpenK.AllK
import Wide.FinOn
import HandS.EndBits
import HandS.EndTab
import HandS.AnyAll
import HandS.Head0
import HandS.Head1
import HandS.Head2
import HandS.HeadHook1
import HandS.HeadHook2
import PyProof.ReprLen
import HandS.Text
import KE.IntTextLaws
import KE.KStateDown
import PySem.Challenge.RW_everypipe_k08_whole_sums
set_option Elab.async false
set_option linter.all false
set_option maxRecDepth 100000
set_option maxHeartbeats 2000000
/-! Mi, part 17: __init__ of an own exception: super().__init__(x), self.x = x. -/
namespace Mi
open PySem PySem.Spec L2 PySem.W PySem.Calls PyProof.Rows
section
variable {prog : Program} {w : World} {A : Around} {E : Value → Shared → Prop} {h : Heap} {g : Array GenState} {d : Drawn} {t : Nat} {os : OsState}
variable {nm q : Str} {C N : Addr} {bs bm : List Value} {hdct : Bool} {sn : List Str} {sub : List Value} {ab : Bool} {col : Option Bool} {dd : Option Addr} {k0 k1 k2 k3 k5 : Option Value}
/-- ValueError.__init__ bound to an instance, called -/
theorem call_mw {u e t0 : Addr} {rest : List Value} {Q : Value → Shared → Prop} (hbm : PySem.HandSPX.refsVE bm = true)
    (hC : h.get? C = some (excClassObj nm q C N bs bm hdct sn sub ab col dd k0 k1 k2 k3 k5 "ValueError.__new__")) (he : h.get? e = some (HandSPX.excO C t0)) (hu : h.get? u = some (kxs_mw "ValueError.__init__" e)) (hrest : rest.length ≤ sizeLine)
    (hq : ∀ h' t1, (∀ b o, b ≠ e → h.get? b = some o → h'.get? b = some o) → h'.get? e = some (HandSPX.excO C t1) → Q .none ⟨h', g, d, t, os⟩) :
    wpAny (model prog w) A (call (.ref u) rest) Q E ⟨h, g, d, t, os⟩ := by
  refine wpAny_call (codeAny_of_tree ?_)
  show wpAny _ A.in1 (callAny (.ref u) ⟨rest, []⟩) _ _ _
  simp only [callAny]
  refine wpAny_bind (wpAny_load hu ?_)
  simp only [kxs_mw, show (Value.type "method-wrapper" == Value.type "method" || Value.type "method-wrapper" == Value.type "builtin_function_or_method" || Value.type "method-wrapper" == Value.type "method-wrapper") = true by decide, if_true]
  refine W.KFB.if_so (by decide) ?_
  refine wpAny_bind (ESX.check_bound F.excBase_ValueError hC he rfl ?_)
  refine wpAny_bind (wpAny_pure (wpAny_pure ?_))
  refine ⟨Code.quiet_builtin _ (by decide +kernel), codeAny_builtin F.excBase_ValueError.initEntry ?_⟩
  rw [Around.under_plainId F.excBase_ValueError.init.plain _]
  wp_walk
  refine hq _ h.objs.size (fun b o hb ho => ?_) ?_
  · rw [Heap.get?_update_other _ _ (Ne.symm hb)]
    exact Heap.get?_push_of_some _ ho
  · rw [Heap.get?_update_self _ (Heap.get?_push_of_some _ he) rfl]
    rfl
end
/-- what the written part says of such a class and its __init__ -/
structure InitK (P : Program) (K : PySem.W.Frag) (mg : Str → Option Value) (C fI cc cda : Addr) (qual : Str) (params : Arguments) (body : List Stmt) (scope : Scope) (fd : FuncData) : Prop where
  oex : OexC K C
  fn : ∃ (oc : Value) (od : Option Addr) (dV kV doc pm : Value) (an : Option Addr) (ct : Value) (osl : Array (Option Value)), fd = fnX "__init__" qual params body scope [("__class__", cc)] dV kV doc pm an (.ref cda) ct ∧ K.lookup fI = some ⟨oc, od, .func fd, osl⟩
  code : PySem.W.codeIn K (.ref cda) qual = true
  codeO : ∃ (ccl : Value) (cdd : Option Addr) (vs : Array Value) (ccs : Array (Option Value)) (file : Str) (tf : Tok), K.lookup cda = some ⟨ccl, cdd, .fields vs, ccs⟩ ∧ vs[2]? = some (.str file tf) ∧ ((P.main.file : Str) == file) = true
  cell : ∃ (cl : Value) (cld : Option Addr) (csl : Array (Option Value)), K.lookup cc = some ⟨cl, cld, .cell (some (.ref C)), csl⟩
  mro : mroIn K C (.ref C) = some true
  sup : ks_superIn K C C "__init__" = some (some (.builtin "ValueError.__init__"))
  isVE : subIn K (.ref C) (.type "ValueError") = some true
  opq : nsIn K cStatics "thirdparty.any" = some none
  mgS : mg "super" = none
  top : (P.main.scope.names.lookup ("super" : Str)).isSome = false
  inK : PySem.W.findIn K (.ref C) "__init__" = some (some (.ref fI))
  tyI : PySem.W.typeIn K (.ref fI) = some (.type "function")
/-- its body: super().__init__(p, ..), then the rest -/
def supCall (p0 p1 p2 p4 p5 : Pos) (es : List Expr) : Stmt := .Expr (.Call (.Attribute (.Call (.Name "super" p0) [] [] p1) "__init__" p2) es [] p4) p5
section
variable {P : Program} {w : World} {K : PySem.W.Frag} {mg : Str → Option Value} {base : Heap} {C fI cc cda : Addr} {qual : Str} {params : Arguments} {body : List Stmt} {scope : Scope} {fd : FuncData} {k : Nat}
/-- the arguments of the super call: names -/
inductive NmEs : List Expr → List Str → Prop
  | nil : NmEs [] []
  | cons {x : Str} {p : Pos} {es : List Expr} {xs : List Str} : (x == ("__debug__" : Str)) = false → NmEs es xs → NmEs (.Name x p :: es) (x :: xs)
theorem nm_spliced {M : Model} {A : Around} {E : Value → Shared → Prop} {s : Shared} {env : Env} {m : Str → Option Value} {pos : Pos} (hn : s.heap.Ns env.locals m) (hk : env.scope.kind = .function) : ∀ {es : List Expr} {xs : List Str} {us : List Value} {Q : List Value → Shared → Prop}, NmEs es xs → (∀ x ∈ xs, env.kindOf x = some .local) → xs.map m = us.map some → Q us s →
    wpAny M A (spliced (backTo pos (starEach es env))) Q E s
  | [], _, us, Q, .nil, _, e, q => by
    have : us = [] := by
      cases us with
      | nil => rfl
      | cons a b => cases e
    subst this
    exact Calls.spliced_nil q
  | _ :: es, _, [], Q, .cons _ _, _, e, _ => by cases e
  | _ :: es, x :: xs, u :: us, Q, .cons hd r, hl, e, q => by
    rw [List.map_cons, List.map_cons] at e
    obtain ⟨e1, e2⟩ := List.cons.inj e
    refine Calls.spliced_cons ?_
    refine wpAny_Name (wpAny_loadName_local hk (hl x List.mem_cons_self) hn e1 ?_) hd
    exact nm_spliced hn hk r (fun y hy => hl y (List.mem_cons_of_mem _ hy)) e2 q
theorem nm_args {M : Model} {A : Around} {E : Value → Shared → Prop} {s : Shared} {env : Env} {m : Str → Option Value} {pos : Pos} {fv : Value} {es : List Expr} {xs : List Str} {us : List Value} {Q : Args → Shared → Prop} (hn : s.heap.Ns env.locals m) (hk : env.scope.kind = .function) (he : NmEs es xs) (hl : ∀ x ∈ xs, env.kindOf x = some .local)
    (e : xs.map m = us.map some) (q : Q ⟨us, []⟩ s) : wpAny M A (evalArgs fv true (backTo pos (starEach es env)) []) Q E s := by
  cases he with
  | nil =>
    have : us = [] := by
      cases us with
      | nil => rfl
      | cons a b => cases e
    subst this
    exact evalArgs_empty q
  | cons hd r => exact evalArgs_plain (nm_spliced hn hk (.cons hd r) hl e q)
abbrev clsN (x : Str) (ps : List Str) : List Str := x :: (ps ++ [("__class__" : Str)])
abbrev nfI (qual : Str) (params : Arguments) (body : List Stmt) (scope : Scope) (cc cda : Addr) : NdefX.NF := ⟨"__init__", qual, params, body, scope, [("__class__", cc)], cda⟩
theorem zip_map {ps : List Str} {us : List Value} (nd : ps.Nodup) (hl : us.length = ps.length) : ps.map (fun x => (ps.zip us).reverse.lookup x) = us.map some := by
  apply List.ext_getElem?
  intro i
  rw [List.getElem?_map, List.getElem?_map]
  cases e : ps[i]? with
  | none =>
    rw [List.getElem?_eq_none_iff] at e
    rw [List.getElem?_eq_none (l := us) (by omega)]
    rfl
  | some x =>
    have hi := (List.getElem?_eq_some_iff.mp e).1
    obtain ⟨u, hu⟩ : ∃ u, us[i]? = some u := ⟨us[i]'(by omega), List.getElem?_eq_getElem (by omega)⟩
    rw [hu]
    exact congrArg some (NdefX.zip_look nd e hu)
/-- the fields one after another: the last one first -/
theorem init_fn {CX : CXT} {ps : List Str} {p0 p1 p2 p4 p5 : Pos} {es : List Expr} {rest : List Stmt} {t : L2.TS} {sp : Sp} {ar : Arg} (I0 : InitK P K mg C fI cc cda qual params (supCall p0 p1 p2 p4 p5 es :: rest) scope fd)
    (S : NdefX.NScope (clsN ar.arg ps) (ar.arg :: ps) ["__class__"] scope) (hpar : (params.posonlyargs ++ params.args).head? = some ar) (hs : scope.names.lookup ("super" : Str) = some .globalImplicit) (hkc : scope.names.lookup ("__class__" : Str) = some .free) (he : NmEs es ps)
    (hev : ∀ env, ∃ pl, eval (.Call (.Attribute (.Call (.Name "super" p0) [] [] p1) "__init__" p2) es [] p4) env = (do
      let ov ← attributeBase (.Call (.Name "super" p0) [] [] p1) "__init__" env (eval (.Call (.Name "super" p0) [] [] p1) env)
      standAt p2.atName
      let (f, first) ← holding [ov] (getMethod ov "__init__" pl)
      callWith p4 f first (backTo p4 (starEach es env)) []))
    (hplain : ∀ env, (backTo p4 (starEach es env)).any (·.1) = false)
    (len : ∀ vs H Q E, sp vs H Q E → vs.length = (ar.arg :: ps).length)
    (hz : ps.length ≤ 1000)
    (hrest : ∀ (A : Around) (outer : List Env) (s : Shared) (H : Hp) (E : XK), PSs (NdefX.ncx CX P w K mg base (clsN ar.arg ps) (nfI qual params (supCall p0 p1 p2 p4 p5 es :: rest) scope cc cda) fI A outer s H E) rest t)
    (hsp : ∀ vs H Q E, sp vs H Q E → (∃ (a : Addr) (ws : List V), vs = .ref a :: ws ∧ H a = some (exo a C none)) ∧ t { nx := fun _ H' => Q .non H', rt := Q } (NdefX.startF (clsN ar.arg ps) vs [none]) H) :
    FnOk P w K mg base CX (k + 1) fI fd (ar.arg :: ps) sp := by
  obtain ⟨oc, od, dV, kV, doc, pm, an, ct, osl, rfl, lk⟩ := I0.fn
  obtain ⟨ccl, cdd, vsc, ccs, file, tf, lkc, hvs, hfile⟩ := I0.codeO
  obtain ⟨cl, cld, csl, lkcc⟩ := I0.cell
  refine ⟨len, fun A outer s H args us vs Q E hr e0 hb r hsp0 => ?_⟩
  have hl := len _ _ _ _ hsp0
  obtain ⟨⟨a, ws, rfl, hH⟩, ht⟩ := hsp _ _ _ _ hsp0
  have KX : K.In s.heap := e0.mod.kin.keeps fun b o e => (e0.bs b o e).1
  have lim : s.heap.NoLimit := e0.mod.nolimit.keeps fun b o e => (e0.bs b o e).1
  have hcc : H cc = none := (e0.bs cc _ (e0.mod.kin _ _ lkcc)).2
  refine codeAny_call_function hr.depth (KX _ _ lk) rfl S.co S.gen rfl (PySem.W.codeRec_of KX I0.code) (hb _ _ _ _ ?_)
  refine wpAny_newFunctionEnv S.nocell (fun ⟨n, _⟩ hy => S.par n (List.of_mem_zip hy).1) (fun h₁ hns hsb => ⟨lim.fresh _ hsb, ?_⟩) S.kind
  show codeAny _ _ (.func (supCall p0 p1 p2 p4 p5 es :: rest) (envX qual scope s.heap.objs.size fI (.ref cda) [("__class__", cc)])) _ _
  refine ks_codeAny_funcAt ?_
  have kp : ∀ b o, s.heap.get? b = some o → h₁.get? b = some o := fun b o e => hsb.extBut b o (Nat.ne_of_lt (Heap.lt_size e)) (Heap.get?_push_of_some _ e)
  have CA : NdefX.CellsAt [(("__class__" : Str), cc)] ["__class__"] [none] s.heap H := by
    refine ⟨rfl, fun y c e => ?_, fun x y c e1 e2 => ?_, fun i y e => ?_⟩
    · rw [List.lookup_cons] at e
      split at e
      · cases e; exact ⟨hcc, _, _, KX _ _ lkcc, rfl⟩
      · cases e
    · rw [List.lookup_cons] at e1 e2
      split at e1
      · rename_i h1
        split at e2
        · rename_i h2
          rw [beq_iff_eq] at h1 h2
          rw [h1, h2]
        · cases e2
      · cases e1
    · cases i with
      | zero =>
        cases e
        exact ⟨cc, by simp, fun v z => by cases z⟩
      | succ i => cases e
  have I : Inv (NdefX.ncx CX P w K mg base (clsN ar.arg ps) (nfI qual params (supCall p0 p1 p2 p4 p5 es :: rest) scope cc cda) fI A outer s H E) [] (NdefX.startF (clsN ar.arg ps) (.ref a :: ws) [none]) H { s with heap := h₁, toks := s.toks + ((ar.arg :: ps).zip us).length } :=
    NdefX.inv_startN S hr.hd e0 hl r CA hns kp
  have ndP : (ar.arg :: ps).Nodup := by
    have q := S.nd.sublist (List.take_sublist ((ar.arg :: ps).length + 1) (clsN ar.arg ps))
    have q2 := S.pre
    rw [show (["__class__"] : List Str).length = 1 from rfl] at q2
    rw [q2] at q
    exact (List.nodup_append.mp q).1
  have hul : us.length = (ar.arg :: ps).length := by rw [← r.length]; exact hl
  obtain ⟨u0, us', rfl⟩ : ∃ u0 us', us = u0 :: us' := by
    cases us with
    | nil => cases hul
    | cons u0 us' => exact ⟨u0, us', rfl⟩
  obtain ⟨ru0, rus⟩ : RelV (.ref a) u0 ∧ Vals ws us' := by
    cases r with
    | cons r1 r2 => exact ⟨r1, r2⟩
  obtain rfl : u0 = Value.ref a := ru0
  have hmap := zip_map ndP hul
  rw [List.map_cons, List.map_cons] at hmap
  obtain ⟨hm0, hmr⟩ := List.cons.inj hmap
  obtain ⟨nm, q, N, bs, bm, sn, sub, ab, col, dd, k0, k1, k2, k3, k5, hC, hbm⟩ := I0.oex.cls
  obtain ⟨t1, ho⟩ := exo_at e0.hok hH
  have hcl : PySem.W.clsIn K C = some { name := nm, bases := bs, mro := .ref C :: bm, ns := N, qualname := q, hasDict := true, slotNames := sn, subclasses := sub, abstract := ab, collection := col, hasDel := false } := by unfold PySem.W.clsIn; rw [hC] <;> rfl
  have K1 : K.In h₁ := fun b o e => kp _ _ (KX b o e)
  obtain ⟨pl, hpl⟩ := hev (envX qual scope s.heap.objs.size fI (.ref cda) [("__class__", cc)])
  refine ks_wpAt_execs_cons (ks_wpAt_Expr_any (ks_wpAt_MethodCall (pl := pl) ?_ hpl) (hi := by unfold interactive; rw [show (envX qual scope s.heap.objs.size fI (.ref cda) [("__class__", cc)]).scope.kind = .function from S.kind]; rfl))
  have hxC : a ≠ C := fun z => by
    have e1 := KX _ _ hC
    rw [← z, ho] at e1
    cases e1
  refine ks_wpAt_super_base (env := envX qual scope s.heap.objs.size fI (.ref cda) [("__class__", cc)]) hs hkc (by decide) rfl (K1 _ _ lk) rfl hpar rfl (K1 _ _ lkc) rfl hvs hfile I0.top ?_
  obtain ⟨mb, b1, b2⟩ := e0.mod.blt
  have base1 : ∀ b o, base.get? b = some o → h₁.get? b = some o := fun b o e => kp _ _ (e0.bs b o e).1
  refine ks_loadName_global S.kind hs (Calls.loadGlobal_builtin (env := envX qual scope s.heap.objs.size fI (.ref cda) [("__class__", cc)]) (e0.mod.glob.keeps base1) I0.mgS (b1.keeps base1) ((b2 _ (by decide)).trans rfl) ⟨rfl, ?_⟩)
  refine wpAny_loadName_free S.kind hkc rfl ⟨_, K1 _ _ lkcc, rfl⟩ ?_
  refine wpAny_loadName_local S.kind (S.par _ List.mem_cons_self) hns hm0 ?_
  refine ks_wpAny_isType_cls (K1 _ _ hC) rfl ⟨rfl, ?_⟩
  refine ks_wpAny_call_super (K1 _ _ hC) rfl (kp _ _ ho) rfl (fun c z => by cases z) (looks_mroIn K1 I0.mro) (fun h2 hso k2' => ?_)
  have K2 : K.In h2 := fun b o e => k2' _ _ (K1 b o e)
  have I2 := I.kept (t' := s.toks + ((ar.arg :: ps).zip (.ref a :: us')).length) k2'
  have IA : InstAt h2 a (HandSPX.excO C t1) C none := ⟨k2' _ _ (kp _ _ ho), rfl, rfl, trivial⟩
  have hsup := I0.sup
  unfold ks_superIn at hsup
  rw [hcl] at hsup
  refine kxs_getMethod kxs_ValueError hso (looks_opaque K2 I0.opq) (l₀ := .ref C :: bm) (fun A Q E s k q => wpAny_bind ((looks_clsIn K2 hcl) A _ E s k (wpAny_pure q))) rfl K2 hsup (IA.type.andThen (looks_subIn K2 I0.isVE)) hxC (by decide) ?_
  have k3' : ∀ b o, h2.get? b = some o → (h2.push (kxs_mw "ValueError.__init__" a)).get? b = some o := fun b o e => Heap.get?_push_of_some _ e
  have hmw : (h2.push (kxs_mw "ValueError.__init__" a)).get? h2.objs.size = some (kxs_mw "ValueError.__init__" a) := Heap.get?_push_at rfl rfl
  have I3 := I2.kept (t' := s.toks + ((ar.arg :: ps).zip (.ref a :: us')).length + 1) k3'
  refine kxs_callWith (i := "ValueError.__init__") (x := a) (hplain _) ?_
  have hns3 : (h2.push (kxs_mw "ValueError.__init__" a)).Ns s.heap.objs.size (fun x => ((ar.arg :: ps).zip (Value.ref a :: us')).reverse.lookup x) := hns.keeps fun b o e => k3' _ _ (k2' _ _ e)
  refine nm_args hns3 S.kind he (fun x hx => S.par x (List.mem_cons_of_mem _ hx)) hmr ⟨hmw, ?_⟩
  refine call_mw hbm (k3' _ _ (K2 _ _ hC)) (k3' _ _ IA.at_) hmw ?_ fun h4 t4 k4 he4 => ?_
  · have := List.length_cons (a := Value.ref a) (as := us')
    rw [hul, List.length_cons] at this
    have h3 : us'.length = ps.length := by omega
    have h4 := line63
    show us'.length ≤ sizeLine
    rw [h3, sizeLine_eq]
    omega
  show PySem.wpAt _ _ _ _ _ _ _
  have J := I3.write (t' := s.toks + ((ar.arg :: ps).zip (.ref a :: us')).length + 1) (x := a) (e := a) (o := exo a C none) (by rw [hH]; exact True.intro) (.inl rfl) k4 ⟨_, he4⟩ (exo_ok he4)
  have eu : upd H a (exo a C none) = H := by
    funext b
    by_cases hb : b = a
    · rw [hb, upd_same, hH]
    · rw [upd_ne hb]
  rw [eu] at J
  refine wpAt_of_wpAny (wpAny_mono ((hrest A outer s H E).run [] _ _ _ _ J ht) (fun fl s' hs => ?_) fun e s' hs => hs)
  have fin : ∀ {σ' : L2.St} {H' : Hp} {v : V} {u : Value}, Inv (NdefX.ncx CX P w K mg base (clsN ar.arg ps) (nfI qual params (supCall p0 p1 p2 p4 p5 es :: rest) scope cc cda) fI A outer s H E) [] σ' H' s' → L2.RelV v u → Q v H' → CE outer P w H s Q u s' :=
    fun {σ' H' v u} J rv q => ⟨v, H', J.os, J.bare, J.base, J.hok, rv, q⟩
  cases fl with
  | ret u =>
    obtain ⟨v, σ', H', J, rv, q⟩ := hs
    exact fin J rv q
  | next =>
    obtain ⟨σ', H', J, q⟩ := hs
    exact fin (v := V.non) (u := Value.none) J rfl q
  | brk =>
    obtain ⟨_, _, _, q⟩ := hs
    exact False.elim q
  | cont =>
    obtain ⟨_, _, _, q⟩ := hs
    exact False.elim q
/-- an __init__'s promise: the fields are kept, the last one first -/
def spIn (C : Addr) (fs : List Str) : Sp := fun vs H Q _ => ∃ a ws, vs = .ref a :: ws ∧ ws.length = fs.length ∧ H a = some (exo a C none) ∧ ∀ dx, H dx = none → dx ≠ a → Q .non (upd (upd H dx (exd dx (fs.zip ws).reverse)) a (exo a C (some dx)))
def selfPut (x f : Str) (p6 p7 p8 p9 : Pos) : Stmt := .Assign [.Attribute (.Name x p6) f p7] (.Name f p8) p9
theorem ost_ps {X : Cx} {x f : Str} {i : Nat} {p6 p7 p8 p9 : Pos} (h0 : X.N[0]? = some x) (hi : X.N[i]? = some f) (v0 : Vis X.env.scope x) (vi : Vis X.env.scope f) (hd0 : (x == ("__debug__" : Str)) = false) (hc0 : (x == ("__classdict__" : Str)) = false) (hd : (f == ("__debug__" : Str)) = false) (hc : (f == ("__classdict__" : Str)) = false) :
    PS X (selfPut x f p6 p7 p8 p9) (tOst X.K f (tVar 0) (tVar i)) := ps_ost (pe_var h0 v0 hd0 hc0) (pe_var hi vi hd hc) rfl
theorem init1 {CX : CXT} {p0 p1 p2 p4 p5 p3 p6 p7 p8 p9 : Pos} {ar : Arg} {x : Str} (I0 : InitK P K mg C fI cc cda qual params [supCall p0 p1 p2 p4 p5 [.Name x p3], selfPut ar.arg x p6 p7 p8 p9] scope fd)
    (S : NdefX.NScope (clsN ar.arg [x]) (ar.arg :: [x]) ["__class__"] scope) (hpar : (params.posonlyargs ++ params.args).head? = some ar) (hs : scope.names.lookup ("super" : Str) = some .globalImplicit) (hkc : scope.names.lookup ("__class__" : Str) = some .free)
    (hev : ∀ env, ∃ pl, eval (.Call (.Attribute (.Call (.Name "super" p0) [] [] p1) "__init__" p2) [.Name x p3] [] p4) env = (do
      let ov ← attributeBase (.Call (.Name "super" p0) [] [] p1) "__init__" env (eval (.Call (.Name "super" p0) [] [] p1) env)
      standAt p2.atName
      let (f, first) ← holding [ov] (getMethod ov "__init__" pl)
      callWith p4 f first (backTo p4 (starEach [.Name x p3] env)) []))
    (hf : PySem.W.findIn K (.ref C) x = some none) (hd0 : (ar.arg == ("__debug__" : Str)) = false) (hc0 : (ar.arg == ("__classdict__" : Str)) = false) (hd : (x == ("__debug__" : Str)) = false) (hc : (x == ("__classdict__" : Str)) = false) :
    FnOk P w K mg base CX (k + 1) fI fd [ar.arg, x] (spIn C [x]) := by
  refine init_fn (t := tOst K x (tVar 0) (tVar 1)) I0 S hpar hs hkc (.cons hd .nil) hev (fun env => rfl) (fun vs H Q E h => ?_) (by simp) (fun A outer s H E => pss_one ?_) fun vs H Q E h => ?_
  · obtain ⟨a, ws, rfl, h1, _⟩ := h
    rw [List.length_cons, h1]
    rfl
  · exact ost_ps (X := NdefX.ncx CX P w K mg base (clsN ar.arg [x]) _ fI A outer s H E) rfl rfl (.inl (S.par _ List.mem_cons_self)) (.inl (S.par _ (List.mem_cons_of_mem _ List.mem_cons_self))) hd0 hc0 hd hc
  · obtain ⟨a, ws, rfl, h1, h2, h3⟩ := h
    refine ⟨⟨a, ws, rfl, h2⟩, ?_⟩
    match ws, h1 with
    | [y], _ =>
      exact ⟨y, rfl, _, rfl, a, C, rfl, I0.oex, hf, .inl ⟨h2, fun dx hdx hne => h3 dx hdx hne⟩⟩
theorem init2 {CX : CXT} {p0 p1 p2 p4 p5 p3 p3' p6 p7 p8 p9 q6 q7 q8 q9 : Pos} {ar : Arg} {x y : Str} (I0 : InitK P K mg C fI cc cda qual params [supCall p0 p1 p2 p4 p5 [.Name x p3, .Name y p3'], selfPut ar.arg x p6 p7 p8 p9, selfPut ar.arg y q6 q7 q8 q9] scope fd)
    (S : NdefX.NScope (clsN ar.arg [x, y]) (ar.arg :: [x, y]) ["__class__"] scope) (hpar : (params.posonlyargs ++ params.args).head? = some ar) (hs : scope.names.lookup ("super" : Str) = some .globalImplicit) (hkc : scope.names.lookup ("__class__" : Str) = some .free)
    (hev : ∀ env, ∃ pl, eval (.Call (.Attribute (.Call (.Name "super" p0) [] [] p1) "__init__" p2) [.Name x p3, .Name y p3'] [] p4) env = (do
      let ov ← attributeBase (.Call (.Name "super" p0) [] [] p1) "__init__" env (eval (.Call (.Name "super" p0) [] [] p1) env)
      standAt p2.atName
      let (f, first) ← holding [ov] (getMethod ov "__init__" pl)
      callWith p4 f first (backTo p4 (starEach [.Name x p3, .Name y p3'] env)) []))
    (hf : PySem.W.findIn K (.ref C) x = some none) (hf2 : PySem.W.findIn K (.ref C) y = some none) (hd0 : (ar.arg == ("__debug__" : Str)) = false) (hc0 : (ar.arg == ("__classdict__" : Str)) = false) (hd : (x == ("__debug__" : Str)) = false) (hc : (x == ("__classdict__" : Str)) = false)
    (hd2 : (y == ("__debug__" : Str)) = false) (hc2 : (y == ("__classdict__" : Str)) = false) :
    FnOk P w K mg base CX (k + 1) fI fd [ar.arg, x, y] (spIn C [x, y]) := by
  refine init_fn (t := tSeq (tOst K x (tVar 0) (tVar 1)) (tOst K y (tVar 0) (tVar 2))) I0 S hpar hs hkc (.cons hd (.cons hd2 .nil)) hev (fun env => rfl) (fun vs H Q E h => ?_) (by simp) (fun A outer s H E => pss_cons ?_ (pss_one ?_)) fun vs H Q E h => ?_
  · obtain ⟨a, ws, rfl, h1, _⟩ := h
    rw [List.length_cons, h1]
    rfl
  · exact ost_ps (X := NdefX.ncx CX P w K mg base (clsN ar.arg [x, y]) _ fI A outer s H E) rfl rfl (.inl (S.par _ List.mem_cons_self)) (.inl (S.par _ (List.mem_cons_of_mem _ List.mem_cons_self))) hd0 hc0 hd hc
  · exact ost_ps (X := NdefX.ncx CX P w K mg base (clsN ar.arg [x, y]) _ fI A outer s H E) rfl rfl (.inl (S.par _ List.mem_cons_self)) (.inl (S.par _ (List.mem_cons_of_mem _ (List.mem_cons_of_mem _ List.mem_cons_self)))) hd0 hc0 hd2 hc2
  · obtain ⟨a, ws, rfl, h1, h2, h3⟩ := h
    refine ⟨⟨a, ws, rfl, h2⟩, ?_⟩
    match ws, h1 with
    | [u, v], _ =>
      refine ⟨u, rfl, _, rfl, a, C, rfl, I0.oex, hf, .inl ⟨h2, fun dx hdx hne => ?_⟩⟩
      refine ⟨v, rfl, _, rfl, a, C, rfl, I0.oex, hf2, .inr ⟨dx, [(x, u)], upd_same, by rw [upd_ne hne, upd_same], by simp, ?_⟩⟩
      have e : upd (upd (upd H dx (exd dx [(x, u)])) a (exo a C (some dx))) dx (exd dx [(y, v), (x, u)]) = upd (upd H dx (exd dx [(y, v), (x, u)])) a (exo a C (some dx)) := by
        funext b
        by_cases hb : b = dx
        · subst hb
          rw [upd_same, upd_ne hne, upd_same]
        · rw [upd_ne hb]
          by_cases hb2 : b = a
          · subst hb2
            rw [upd_same, upd_same]
          · rw [upd_ne hb2, upd_ne hb2, upd_ne hb, upd_ne hb]
      show Q .non _
      rw [e]
      exact h3 dx hdx hne
/-- a class that is raised, as the layer takes it -/
structure RaiseK (P : Program) (w : World) (K : PySem.W.Frag) (mg : Str → Option Value) (base : Heap) (x : Str) (C fI : Addr) (fd : FuncData) (fs : List Str) (k : Nat) : Prop where
  oex : OexC K C
  inK : PySem.W.findIn K (.ref C) "__init__" = some (some (.ref fI))
  tyI : PySem.W.typeIn K (.ref fI) = some (.type "function")
  ok : ∃ self, FnOk P w K mg base (L2.CX P w) k fI fd (self :: fs) (spIn C fs) ∧ Binds K fd (self :: fs) []
  mg : mg x = some (.ref C)
  xf : XfC K C
  nof : ∀ f ∈ fs, PySem.W.findIn K (.ref C) f = some none
/-- what making such an exception asks -/
def rawR (C : Addr) (fs : List Str) (vs : List V) (H1 : Hp) (Q : XK) : Prop := vs.length ≤ 1000 ∧ ∀ a, H1 a = none → spIn C fs (.ref a :: (vs ++ [])) (upd H1 a (exo a C none)) (fun v H2 => v = .non ∧ ∃ (d : Addr) (fs : List (Str × V)), H2 a = some (exo a C (some d)) ∧ H2 d = some (exd d fs) ∧ H1 d = none ∧ Q (.ref C) (some d) (upd (del H2 a) d (.xd fs))) (fun _ _ _ => False)
theorem raw_of {C : Addr} {fs : List Str} {vs : List V} {H1 : Hp} {Q : XK} (h1 : vs.length = fs.length) (h2 : vs.length ≤ 1000) (h : ∀ d, H1 d = none → Q (.ref C) (some d) (upd H1 d (.xd (fs.zip vs).reverse))) : rawR C fs vs H1 Q := by
  refine ⟨h2, fun a ha => ⟨a, vs ++ [], rfl, by rw [List.append_nil]; exact h1, upd_same, fun dx hdx hne => ⟨rfl, dx, (fs.zip vs).reverse, ?_, ?_, ?_, ?_⟩⟩⟩
  · exact upd_same
  · rw [upd_ne hne, upd_same, List.append_nil]
  · rw [upd_ne hne] at hdx; exact hdx
  · have hdx' : H1 dx = none := by rw [upd_ne hne] at hdx; exact hdx
    have e : upd (del (upd (upd (upd H1 a (exo a C none)) dx (exd dx (fs.zip (vs ++ [])).reverse)) a (exo a C (some dx))) a) dx (.xd (fs.zip vs).reverse) = upd H1 dx (.xd (fs.zip vs).reverse) := by
      funext b
      by_cases hb : b = dx
      · subst hb; rw [upd_same, upd_same]
      · rw [upd_ne hb, upd_ne hb]
        by_cases hb2 : b = a
        · subst hb2; rw [del_same, ha]
        · rw [del_ne hb2, upd_ne hb2, upd_ne hb, upd_ne hb2]
    rw [e]
    exact h dx hdx'
/-- raise C(e, ..) -/
theorem ps_raiseC {X : Cx} {W : WX} {x : Str} {C fI : Addr} {fd : FuncData} {fs : List Str} {k : Nat} {e : Expr} {es : List Expr} {ta : TA} {p pos rpos : Pos} (hc : X.calm = true) (tk : Takes X W) (R : RaiseK X.prog X.w X.K X.mg X.base x C fI fd fs k) (hr : Room (k + 1) X.A) (hg : Gl X x) (ha : PA X (e :: es) ta)
    (hdb : (x == ("__debug__" : Str)) = false := by decide) (he : starEach (e :: es) X.env = (false, eval e X.env) :: starEach es X.env := by rfl) (hpl : (backTo pos (starEach es X.env)).any (·.1) = false := by rfl) :
    PS X (.Raise (some (.Call (.Name x p) (e :: es) [] pos)) none rpos) (fun _ σ H => ta σ H fun vs H1 => rawR C fs vs H1 (fun cls d H' => W cls d σ H')) := by
  obtain ⟨self, F, hb⟩ := R.ok
  have hx : Passes (L2.CX X.prog X.w) X (fun _ _ _ => False) := passes_call tk fun _ _ _ _ h => h.elim
  exact ps_raise hc tk (pmk_oex R.oex R.inK R.tyI F hr hb .nil hx hg R.mg ha hdb he hpl)
end
end Mi
set_option Elab.async false
set_option linter.all false
set_option maxRecDepth 100000
/-! Mi, part 1: an evaluator over pure data. -/
namespace Mi
open PySem
/-! ### data -/
/-- a text: its code points -/
abbrev Tx := List Nat
/-- a key of a dict -/
inductive Ky where
  | i (n : Int) | s (x : Tx)
  deriving DecidableEq
/-- a value: what can't be changed any more, by its content; ref: an object of the store; scr: the script -/
inductive D where
  | non | bl (b : Bool) | int (i : Int) | str (x : Tx)
  | tup (xs : List D) | lst (xs : List D) | dct (kvs : List (Ky × D))
  | ref (i : Nat)
  | scr (ns : List Int)
/-- a name's place: unset; a value; a list or dict that no one else holds; a caught exception; a lambda that was handed in -/
inductive Sl where
  | un | val (d : D) | own (d : D) | ex (fs : List (Tx × D)) | lam
/-- a shared object -/
inductive SO where
  | lst (xs : List D) | dct (kvs : List (Ky × D))
abbrev Fr := List Sl
abbrev Store := List SO
inductive R (α : Type) where
  | ok (a : α) (f : Fr) (S : Store)
  | exc (c : Nat) (fs : List (Tx × D)) (f : Fr) (S : Store)
  | bad
/-- a call's end; fr: the list or dict told is held by no one else -/
inductive CR where
  | rt (d : D) (fr : Bool) (S : Store)
  | exc (c : Nat) (fs : List (Tx × D)) (S : Store)
  | bad
inductive RS where
  | nx (f : Fr) (S : Store)
  | rt (d : D) (fr : Bool) (f : Fr) (S : Store)
  | bk (f : Fr) (S : Store)
  | ct (f : Fr) (S : Store)
  | exc (c : Nat) (fs : List (Tx × D)) (f : Fr) (S : Store)
  | bad
structure Ctx where
  call : Nat → List Sl → (Store → CR) → Store → CR
  lam : Store → CR
  dep : Nat
  lo : Nat → List Sl → (Store → CR) → Store → CR
abbrev M (α : Type) := Ctx → Fr → Store → R α
/-- a value, and whether no one else holds it -/
abbrev DX := D × Bool
abbrev MS := Ctx → Fr → Store → RS
/-- the largest length -/
abbrev LIM : Nat := 16777216

def R.bind {α β : Type} (r : R α) (g : α → Fr → Store → R β) : R β := match r with
  | .ok a f S => g a f S
  | .exc c fs f S => .exc c fs f S
  | .bad => .bad
def mPure {α : Type} (a : α) : M α := fun _ f S => .ok a f S
def mBind {α β : Type} (m : M α) (g : α → M β) : M β := fun C f S => (m C f S).bind fun a f S => g a C f S
def mBad {α : Type} : M α := fun _ _ _ => .bad
/-- what may or may not be there -/
def mOpt {α : Type} (o : Option α) : M α := fun _ f S => match o with
  | some a => .ok a f S
  | none => .bad
/-- a value, frozen if it was new -/
def mFz (m : M DX) : M D := mBind m fun d => mPure d.1
/-- a value that is not new -/
def mVl (m : M D) : M DX := mBind m fun d => mPure (d, false)

/-! ### names -/
/-- what stands at a place, as it stands -/
def peek (f : Fr) (k : Nat) : Option D := match f[k]? with
  | some (.val d) => some d
  | some (.own d) => some d
  | _ => none
/-- a name read as a value: what it owned is its own no more -/
def mVar (k : Nat) : M D := fun _ f S => match f[k]? with
  | some (.val d) => .ok d f S
  | some (.own d) => .ok d (f.set k (.val d)) S
  | _ => .bad
def mC (d : D) : M D := mPure d

/-! ### operands: a name is read as late as it is used -/
inductive Op where
  | s (k : Nat) | e (m : M D)
def opE : Op → M (Nat ⊕ D)
  | .s k => fun _ f S => match peek f k with
    | some _ => .ok (.inl k) f S
    | none => .bad
  | .e m => mBind m fun d => mPure (.inr d)
def opR (f : Fr) : Nat ⊕ D → Option D
  | .inl k => peek f k
  | .inr d => some d
def opsE : List Op → M (List (Nat ⊕ D))
  | [] => mPure []
  | o :: os => mBind (opE o) fun x => mBind (opsE os) fun xs => mPure (x :: xs)
def opsR (f : Fr) : List (Nat ⊕ D) → Option (List D)
  | [] => some []
  | x :: xs => match opR f x, opsR f xs with
    | some d, some ds => some (d :: ds)
    | _, _ => none
/-- an operation by values: the values are taken as they stand now -/
def at1 {α : Type} (g : Store → D → Option α) (x : Nat ⊕ D) : M α := fun _ f S => match opR f x with
  | some d => (match g S d with
    | some r => .ok r f S
    | none => .bad)
  | none => .bad
def at2 {α : Type} (g : Store → D → D → Option α) (x y : Nat ⊕ D) : M α := fun _ f S => match opR f x, opR f y with
  | some d, some e => (match g S d e with
    | some r => .ok r f S
    | none => .bad)
  | _, _ => .bad
def atN {α : Type} (g : Store → List D → Option α) (xs : List (Nat ⊕ D)) : M α := fun _ f S => match opsR f xs with
  | some ds => (match g S ds with
    | some r => .ok r f S
    | none => .bad)
  | none => .bad
def mUn {α : Type} (g : Store → D → Option α) (a : Op) : M α := mBind (opE a) fun x => at1 g x
def mBin {α : Type} (g : Store → D → D → Option α) (a b : Op) : M α := mBind (opE a) fun x => mBind (opE b) fun y => at2 g x y
def mFn {α : Type} (g : Store → List D → Option α) (os : List Op) : M α := mBind (opsE os) fun xs => atN g xs
def mAll : List (M D) → M (List D)
  | [] => mPure []
  | m :: ms => mBind m fun d => mBind (mAll ms) fun ds => mPure (d :: ds)
/-- displays -/
def mTup (ms : List (M D)) : M DX := mBind (mAll ms) fun ds _ f S => if ds.length ≤ LIM then .ok (.tup ds, false) f S else .bad
def mLst (ms : List (M D)) : M DX := mBind (mAll ms) fun ds _ f S => if ds.length ≤ LIM then .ok (.lst ds, true) f S else .bad
/-- a list laid into the store -/
def mLstS (ms : List (M D)) : M DX := mBind (mAll ms) fun ds _ f S => if ds.length ≤ LIM then .ok (.ref S.length, false) f (S ++ [.lst ds]) else .bad

/-! ### what a value is read as -/
def seqOf (S : Store) : D → Option (List D)
  | .lst ds => some ds
  | .scr ns => some (ns.map .int)
  | .tup ds => some ds
  | .ref i => (match S[i]? with
    | some (.lst ds) => some ds
    | _ => none)
  | _ => none
def lstOf (S : Store) : D → Option (List D)
  | .lst ds => some ds
  | .ref i => (match S[i]? with
    | some (.lst ds) => some ds
    | _ => none)
  | _ => none
def dctOf (S : Store) : D → Option (List (Ky × D))
  | .dct kvs => some kvs
  | .ref i => (match S[i]? with
    | some (.dct kvs) => some kvs
    | _ => none)
  | _ => none
/-! ### tests -/
def truth (S : Store) : D → Option Bool
  | .non => some false
  | .bl b => some b
  | .int i => some (i != 0)
  | .str x => if x.length ≤ LIM then some (x.length != 0) else none
  | .tup ds => some (!ds.isEmpty)
  | .lst ds => some (!ds.isEmpty)
  | .scr ns => some (!ns.isEmpty)
  | .dct _ => none
  | .ref i => (match S[i]? with
    | some (.lst ds) => some (!ds.isEmpty)
    | some (.dct kvs) => some (!kvs.isEmpty)
    | none => none)
def mTruth (a : Op) : M Bool := mUn truth a
/-- a < b < c: b is asked once -/
def mChain (g h : Store → D → D → Option Bool) (a b c : Op) : M Bool := mBind (opE a) fun x => mBind (opE b) fun y => mBind (at2 g x y) fun k => if k = true then mBind (opE c) fun z => at2 h y z else mPure false
def mNot (t : M Bool) : M Bool := mBind t fun b => mPure (!b)
def mAnd (t u : M Bool) : M Bool := mBind t fun b => if b = true then u else mPure false
def mOr (t u : M Bool) : M Bool := mBind t fun b => if b = true then mPure true else u
def mBl (t : M Bool) : M D := mBind t fun b => mPure (.bl b)
def mIf {α : Type} (t : M Bool) (a b : M α) : M α := mBind t fun c => if c = true then a else b
end Mi
namespace Mi
/-! ### calls -/
def CR.thenR (res : CR) (f : Fr) : R DX := match res with
  | .rt d fr S => .ok (d, fr) f S
  | .exc c fs S => .exc c fs f S
  | .bad => .bad
def mCall (i : Nat) (ms : List (M D)) : M DX := mBind (mAll ms) fun ds C f S => (C.call i (ds.map .val) C.lam S).thenR f
/-- a body's end as a call's end -/
def RS.toC : RS → CR
  | .nx _ S => .rt .non false S
  | .rt d fr _ S => .rt d fr S
  | .exc c fs _ S => .exc c fs S
  | _ => .bad
/-- the frame at a def's entry -/
def frame (n : Nat) (args : List Sl) : Fr := args ++ List.replicate (n - args.length) .un
def badC : Nat → List Sl → (Store → CR) → Store → CR := fun _ _ _ _ => .bad
/-- the calls, so deep -/
def callM (bd : Nat → Option (Nat × MS)) : Nat → Nat → List Sl → (Store → CR) → Store → CR
  | 0 => badC
  | 1 => fun i args lam S => match bd i with
    | some (k, b) => (b ⟨badC, lam, 0, badC⟩ (frame k args) S).toC
    | none => .bad
  | 2 => fun i args lam S => match bd i with
    | some (k, b) => (b ⟨callM bd 1, lam, 1, badC⟩ (frame k args) S).toC
    | none => .bad
  | n + 3 => fun i args lam S => match bd i with
    | some (k, b) => (b ⟨callM bd (n + 2), lam, n + 2, callM bd n⟩ (frame k args) S).toC
    | none => .bad
def loM (bd : Nat → Option (Nat × MS)) : Nat → Nat → List Sl → (Store → CR) → Store → CR
  | n + 2 => callM bd n
  | _ => badC
theorem callM_succ (bd : Nat → Option (Nat × MS)) (n i : Nat) (args : List Sl) (lam : Store → CR) (S : Store) : callM bd (n + 1) i args lam S = (match bd i with
    | some (k, b) => (b ⟨callM bd n, lam, n, loM bd n⟩ (frame k args) S).toC
    | none => .bad) := by
  match n with
  | 0 => rfl
  | 1 => rfl
  | n + 2 => rfl
/-! ### statements -/
def R.thenS {α : Type} (r : R α) (g : α → Fr → Store → RS) : RS := match r with
  | .ok a f S => g a f S
  | .exc c fs f S => .exc c fs f S
  | .bad => .bad
def RS.seq (r : RS) (g : Fr → Store → RS) : RS := match r with
  | .nx f S => g f S
  | .rt d fr f S => .rt d fr f S
  | .bk f S => .bk f S
  | .ct f S => .ct f S
  | .exc c fs f S => .exc c fs f S
  | .bad => .bad
def sNx : MS := fun _ f S => .nx f S
def sBk : MS := fun _ f S => .bk f S
def sCt : MS := fun _ f S => .ct f S
def sSeq (a b : MS) : MS := fun C f S => (a C f S).seq fun f S => b C f S
def sDrop {α : Type} (m : M α) : MS := fun C f S => (m C f S).thenS fun _ f S => .nx f S
def sRet (m : M DX) : MS := fun C f S => (m C f S).thenS fun d f S => .rt d.1 d.2 f S
/-- a name told: what it owns goes with it -/
def sRetV (k : Nat) : MS := fun _ f S => match f[k]? with
  | some (.val d) => .rt d false f S
  | some (.own d) => .rt d true (f.set k .un) S
  | _ => .bad
def sRetN : MS := fun _ f S => .rt .non false f S
def sIf (t : M Bool) (a b : MS) : MS := fun C f S => (t C f S).thenS fun k f S => if k = true then a C f S else b C f S
def slOf (d : DX) : Sl := if d.2 = true then .own d.1 else .val d.1
def sSet (k : Nat) (m : M DX) : MS := fun C f S => (m C f S).thenS fun d f S => .nx (f.set k (slOf d)) S
end Mi
namespace Mi
/-! ### loops -/
/-- what a for assigns: a name, a tuple of names -/
inductive Tg where
  | n (k : Nat) | t (ks : List Nat)
def putAll : List Nat → List D → Fr → Option Fr
  | [], [], f => some f
  | k :: ks, d :: ds, f => putAll ks ds (f.set k (.val d))
  | _, _, _ => none
def Tg.put (t : Tg) (d : D) (f : Fr) : Option Fr := match t with
  | .n k => some (f.set k (.val d))
  | .t ks => (match d with
    | .tup ds => putAll ks ds f
    | _ => none)
def loop (t : Tg) (body : MS) (C : Ctx) : List D → Fr → Store → RS
  | [], f, S => .nx f S
  | d :: ds, f, S => match t.put d f with
    | none => .bad
    | some f' => match body C f' S with
      | .nx f S => loop t body C ds f S
      | .ct f S => loop t body C ds f S
      | .bk f S => .nx f S
      | .rt d fr f S => .rt d fr f S
      | .exc c fs f S => .exc c fs f S
      | .bad => .bad
def sFor (t : Tg) (mi : M (List D)) (body : MS) : MS := fun C f S => (mi C f S).thenS fun ds f S => loop t body C ds f S
def whil (t : M Bool) (body : MS) (C : Ctx) : Nat → Fr → Store → RS
  | 0, _, _ => .bad
  | n + 1, f, S => match t C f S with
    | .ok true f S => (match body C f S with
      | .nx f S => whil t body C n f S
      | .ct f S => whil t body C n f S
      | .bk f S => .nx f S
      | .rt d fr f S => .rt d fr f S
      | .exc c fs f S => .exc c fs f S
      | .bad => .bad)
    | .ok false f S => .nx f S
    | .exc c fs f S => .exc c fs f S
    | .bad => .bad
def sWhile (n : Nat) (t : M Bool) (body : MS) : MS := fun C f S => whil t body C n f S
/-! ### comprehensions -/
def wipeF (f : Fr) : List Nat → Fr
  | [] => f
  | v :: vs => (wipeF f vs).set v .un
/-- the own names' places as they were -/
def backF (f f' : Fr) : List Nat → Fr
  | [] => f'
  | v :: vs => (backF f f' vs).set v ((f[v]?).getD .un)
def noOwn (f : Fr) (vs : List Nat) : Bool := vs.all fun v => match f[v]? with
  | some (.val _) => true
  | some .un => true
  | _ => false
def outside (vs : List Nat) (t : Tg) : Bool := match t with
  | .n k => vs.contains k
  | .t ks => ks.all vs.contains
def comp (vs : List Nat) (t : Tg) (tst : M Bool) (elt : M D) (C : Ctx) : List D → List D → Fr → Store → R (List D)
  | [], acc, f, S => .ok acc f S
  | d :: ds, acc, f, S => match t.put d (wipeF f vs) with
    | none => .bad
    | some f' => (tst C f' S).bind fun k f S => if k = true then (elt C f S).bind fun y f S => if acc.length < LIM then comp vs t tst elt C ds (acc ++ [y]) f S else .bad
      else comp vs t tst elt C ds acc f S
def compK (vs : List Nat) (t : Tg) (tst : M Bool) (elt : M D) (ds : List D) : M DX := fun C f S =>
  if (noOwn f vs && outside vs t) = true then (match comp vs t tst elt C ds [] f S with
    | .ok acc f' S' => .ok (.lst acc, true) (backF f f' vs) S'
    | _ => .bad) else .bad
def mComp (vs : List Nat) (t : Tg) (mi : M (List D)) (tst : M Bool) (elt : M D) : M DX := mBind mi (compK vs t tst elt)
/-! ### what is walked -/
def chars (x : Tx) : List D := x.map fun c => .str [c]
/-- list, tuple, text, script: as they are when the walk begins -/
def walkD : D → Option (List D)
  | .lst ds => some ds
  | .tup ds => some ds
  | .scr ns => some (ns.map .int)
  | .str x => some (chars x)
  | _ => none
def mIter (m : M D) : M (List D) := mBind m fun d => mOpt (walkD d)
def inR (i : Int) : Bool := decide (-(2 ^ 62) ≤ i) && decide (i < 2 ^ 62)
def rangeD (lo : Int) (n : Nat) : List D := (List.range n).map fun i => .int (lo + (i : Nat))
def intOf : D → Option Int
  | .int i => some i
  | _ => none
def mRange1 (m : M D) : M (List D) := mBind (mAll [m]) fun ds => mOpt (match ds with
  | [.int j] => if inR j then some (rangeD 0 j.toNat) else none
  | _ => none)
def mRange2 (m n : M D) : M (List D) := mBind (mAll [m, n]) fun ds => mOpt (match ds with
  | [.int i, .int j] => if inR i && inR j then some (rangeD i (j - i).toNat) else none
  | _ => none)
def walkL : D → Option (List D)
  | .lst ds => some ds
  | .scr ns => some (ns.map .int)
  | _ => none
def pairD : List D → List D → List D
  | x :: xs, y :: ys => .tup [x, y] :: pairD xs ys
  | _, _ => []
def mEnum (m : M D) : M (List D) := mBind (mAll [m]) fun ds => mOpt (match ds with
  | [d] => (walkL d).map fun xs => pairD (rangeD 0 xs.length) xs
  | _ => none)
def mZip (m n : M D) : M (List D) := mBind (mAll [m, n]) fun ds => mOpt (match ds with
  | [.tup xs, .tup ys] => some (pairD xs ys)
  | [d, e] => (match walkL d, walkL e with
    | some xs, some ys => some (pairD xs ys)
    | _, _ => none)
  | _ => none)
end Mi
namespace Mi
/-! ### what is changed in its place -/
/-- the list or dict that a name tells: its own, or a shared one -/
def obj (f : Fr) (S : Store) (k : Nat) : Option SO := match f[k]? with
  | some (.own (.lst ds)) => some (.lst ds)
  | some (.own (.dct ds)) => some (.dct ds)
  | some (.val (.ref i)) => S[i]?
  | _ => none
def SO.d : SO → D
  | .lst ds => .lst ds
  | .dct ds => .dct ds
def upF (f : Fr) (k : Nat) (o : SO) : Fr := match f[k]? with
  | some (.own _) => f.set k (.own o.d)
  | _ => f
def upS (f : Fr) (S : Store) (k : Nat) (o : SO) : Store := match f[k]? with
  | some (.val (.ref i)) => S.set i o
  | _ => S
def SO.isL : SO → Bool
  | .lst _ => true
  | .dct _ => false
def mutK (k : Nat) (h : SO → List D → Option (SO × D)) (ds : List D) : M D := fun _ f S => match obj f S k with
    | none => .bad
    | some o => match h o ds with
      | some (o', d) => .ok d (upF f k o') (upS f S k o')
      | none => .bad
def mMut (L : Bool) (k : Nat) (ms : List (M D)) (h : SO → List D → Option (SO × D)) : M D := fun C f S => match obj f S k with
  | none => .bad
  | some o => if o.isL = L then mBind (mAll ms) (mutK k h) C f S else .bad
/-- xs[i] = v -/
def sPut (k : Nat) (oi : Op) (m : M D) (h : SO → D → D → Option SO) : MS := fun C f S => (m C f S).thenS fun d f S => match peek f k with
  | none => .bad
  | some _ => (opE oi C f S).thenS fun x f S => match opR f x, obj f S k with
    | some i, some o => (match h o i d with
      | some o' => .nx (upF f k o') (upS f S k o')
      | none => .bad)
    | _, _ => .bad
end Mi
namespace Mi
/-- raise C(e, ..), the fields fs -/
def sRaise (c : Nat) (fs : List Tx) (ms : List (M D)) : MS := fun C f S => (mAll ms C f S).thenS fun ds f S => .exc c (fs.zip ds).reverse f S
end Mi
namespace Mi
/-! ### try -/
def noEx (f : Fr) : Bool := f.all fun sl => match sl with
  | .ex _ => false
  | _ => true
def asF (f : Fr) (fs : List (Tx × D)) : Option Nat → Fr
  | none => f
  | some i => f.set i (.ex fs)
def unF (f : Fr) : Option Nat → Fr
  | none => f
  | some i => f.set i .un
def RS.post (oi : Option Nat) : RS → RS
  | .nx f S => if noEx (unF f oi) = true then .nx (unF f oi) S else .bad
  | .bk f S => if noEx (unF f oi) = true then .bk (unF f oi) S else .bad
  | .ct f S => if noEx (unF f oi) = true then .ct (unF f oi) S else .bad
  | .rt d fr f S => if noEx (unF f oi) = true then .rt d fr (unF f oi) S else .bad
  | .exc _ _ _ _ => .bad
  | .bad => .bad
def tryHs (C : Ctx) (c : Nat) (fs : List (Tx × D)) (f : Fr) (S : Store) : List (Nat × Option Nat × MS) → RS
  | [] => .exc c fs f S
  | (h, oi, m) :: r => if c = h then (if noEx f = true then (m C (asF f fs oi) S).post oi else .bad) else tryHs C c fs f S r
def sTry (nx : Nat) (body : MS) (hs : List (Nat × Option Nat × MS)) : MS := fun C f S => match body C f S with
  | .exc c fs f S => if c < nx then tryHs C c fs f S hs else .bad
  | .nx f S => .nx f S
  | .rt d fr f S => .rt d fr f S
  | .bk f S => .bk f S
  | .ct f S => .ct f S
  | .bad => .bad
/-- e.n, e the exception that was caught -/
def mEx (k : Nat) (n : Tx) : M D := fun _ f S => match f[k]? with
  | some (.ex fs) => (match fs.lookup n with
    | some d => .ok d f S
    | none => .bad)
  | _ => .bad
end Mi
namespace Mi
/-! ### several names at once -/
/-- a, b = (x, y): both are told, then stored -/
def parK (i j : Nat) (n : M DX) (d : DX) : MS := fun C f S => (n C f S).thenS fun e f S => .nx ((f.set i (slOf d)).set j (slOf e)) S
def sPar (i j : Nat) (m n : M DX) : MS := fun C f S => (m C f S).thenS fun d f S => parK i j n d C f S
/-- a, b, .. = e -/
def sTup (t : Tg) (m : M D) : MS := fun C f S => (m C f S).thenS fun d f S => match t.put d f with
  | some f' => .nx f' S
  | none => .bad
end Mi
namespace Mi
/-! ### dicts -/
def mPairs : List (M D × M D) → M (List (D × D))
  | [] => mPure []
  | (k, v) :: r => mBind k fun a => mBind v fun b => mBind (mPairs r) fun ps => mPure ((a, b) :: ps)
def keyed (asK : D → Option Ky) : List (D × D) → Option (List (Ky × D))
  | [] => some []
  | (a, b) :: r => match asK a, keyed asK r with
    | some k, some ks => some ((k, b) :: ks)
    | _, _ => none
def dctK (asK : D → Option Ky) (mg : List (Ky × D) → List (Ky × D)) (ps : List (D × D)) : M DX := fun _ f S => match keyed asK ps with
  | some kvs => if kvs.length ≤ 15 then .ok (.dct (mg kvs), true) f S else .bad
  | none => .bad
end Mi
namespace Mi
/-! ### walks of dicts -/
def RS.noExc : RS → RS
  | .exc _ _ _ _ => .bad
  | o => o
/-- for .. in a dict that a name tells -/
def sForD (t : Tg) (k : Nat) (it : List (Ky × D) → List D) (body : MS) : MS := fun C f S => (mVar k C f S).thenS fun d f S => match d with
  | .dct kvs => (loop t body C (it kvs) f S).noExc
  | _ => .bad
def compD (vs : List Nat) (t : Tg) (k : Nat) (it : List (Ky × D) → List D) (tst : M Bool) (elt : M D) : M DX := mBind (mVar k) fun d => match d with
  | .dct kvs => compK vs t tst elt (it kvs)
  | _ => mBad
end Mi
namespace Mi
/-- f(a, .., k = b, ..): the values in the parameters' order -/
def pm {α : Type} (perm : List Nat) (xs : List α) : List α := perm.filterMap fun j => xs[j]?
def mCallK (i : Nat) (perm : List Nat) (ms ks : List (M D)) : M DX := mBind (mAll ms) fun ds => mBind (mAll ks) fun es C f S => (C.call i ((pm perm (ds ++ es)).map .val) C.lam S).thenR f
end Mi
namespace Mi
/-! ### a lambda handed to a def -/
def R.toCR (r : R DX) : CR := match r with
  | .ok d _ S => .rt d.1 d.2 S
  | .exc c fs _ S => .exc c fs S
  | .bad => .bad
/-- the lambda that was handed in is called -/
def isLam : Option Sl → Bool
  | some .lam => true
  | _ => false
def mLam : M DX := fun C f S => if isLam f[0]? = true then (C.lam S).thenR f else .bad
/-- what a lambda sees of the frame around it -/
def seen (f : Fr) : Fr := f.map fun (sl : Sl) => match sl with
  | Sl.val d => Sl.val d
  | _ => Sl.un
def lamFn (C : Ctx) (lb : M DX) (f : Fr) : Store → CR := fun S => (lb ⟨C.lo, fun _ => .bad, 0, badC⟩ (seen f) S).toCR
/-- g(lambda: e): mb, of n names, is g's body -/
def mLamCall (n : Nat) (mb : MS) (lb : M DX) : M DX := fun C f S => if C.dep < 2 then .bad else (mb ⟨badC, lamFn C lb f, 0, badC⟩ (frame n [Sl.lam]) S).toC.thenR f
end Mi
set_option Elab.async false
set_option linter.all false
set_option maxRecDepth 100000
/-! Mi, part 5: the operations. -/
namespace Mi
open PySem
/-! ### numbers -/
def okMul (i j : Int) : Bool := decide (i.natAbs < 2 ^ 64) || (decide (j.natAbs < 2 ^ 64) || decide (i.natAbs.log2 + j.natAbs.log2 < 1000000))
def okDiv (j : Int) : Bool := decide (0 < j) && (decide (j < 1073741824) || decide (j.natAbs.log2 < 9000))
def vl (d : D) : Option DX := some (d, false)
def pAdd (S : Store) (a b : D) : Option DX := match a, b with
  | .int i, .int j => some (.int (i + j), false)
  | .str x, .str y => if x.length + y.length ≤ LIM then some (.str (x ++ y), false) else none
  | .tup xs, .tup ys => if xs.isEmpty then none else if xs.length + ys.length ≤ LIM then some (.tup (xs ++ ys), false) else none
  | a, b => (match lstOf S a, lstOf S b with
    | some xs, some ys => if xs.length + ys.length ≤ LIM then some (.lst (xs ++ ys), true) else none
    | _, _ => none)
def pSub (_ : Store) (a b : D) : Option DX := match a, b with
  | .int i, .int j => some (.int (i - j), false)
  | _, _ => none
def pMul (S : Store) (a b : D) : Option DX := match a, b with
  | .int i, .int j => if okMul i j then some (.int (i * j), false) else none
  | a, .int k => (match lstOf S a with
    | some xs => if decide (-(2 ^ 63) ≤ k) && decide (k < 2 ^ 63) && decide (xs.length * k.toNat ≤ LIM) then some (.lst (List.replicate k.toNat xs).flatten, true) else none
    | none => none)
  | _, _ => none
def pDiv (_ : Store) (a b : D) : Option DX := match a, b with
  | .int i, .int j => if okDiv j then some (.int (i / j), false) else none
  | _, _ => none
def pMod (_ : Store) (a b : D) : Option DX := match a, b with
  | .int i, .int j => if 0 < j then some (.int (i % j), false) else none
  | _, _ => none
def pPow (_ : Store) (a b : D) : Option DX := match a, b with
  | .int i, .int j => if decide (0 ≤ j) && decide (j ≤ 1000000) && decide (i.natAbs < 2 ^ 64) then some (.int (i ^ j.toNat), false) else none
  | _, _ => none
def pNeg (_ : Store) (a : D) : Option DX := match a with
  | .int i => some (.int (-i), false)
  | _ => none
def binOp (op : Operator) : Option (Store → D → D → Option DX) := match op with
  | .Add => some pAdd
  | .Sub => some pSub
  | .Mult => some pMul
  | .FloorDiv => some pDiv
  | .Mod => some pMod
  | .Pow => some pPow
  | _ => none

/-! ### == -/
/-- == of plain values, where no kinds meet that are told equal -/
def scalEq (a b : D) : Option Bool := match a, b with
  | .int i, .int j => some (decide (i = j))
  | .str x, .str y => some (decide (x = y))
  | .bl x, .bl y => some (decide (x = y))
  | .non, .non => some true
  | .non, .int _ => some false
  | .int _, .non => some false
  | .non, .bl _ => some false
  | .bl _, .non => some false
  | .non, .str _ => some false
  | .str _, .non => some false
  | .int _, .str _ => some false
  | .str _, .int _ => some false
  | .bl _, .str _ => some false
  | .str _, .bl _ => some false
  | _, _ => none
def toStr (x : Tx) : Str := ⟨x.toArray⟩
mutual
/-- the data that a value is -/
def toP : D → Option PyData
  | .non => some .none
  | .bl b => some (.bool b)
  | .int i => some (.int i)
  | .str x => some (.str (toStr x))
  | .tup ds => (toPs ds).map .tuple
  | .lst ds => (toPs ds).map .list
  | .dct _ => none
  | .ref _ => none
  | .scr _ => none
def toPs : List D → Option (List PyData)
  | [] => some []
  | d :: ds => match toP d, toPs ds with
    | some p, some ps => some (p :: ps)
    | _, _ => none
end
/-- .. of what stands in the store, too -/
def toPS (S : Store) (d : D) : Option PyData := match d with
  | .ref _ => (match lstOf S d with
    | some ds => (toPs ds).map .list
    | none => none)
  | d => toP d
def pEq (S : Store) (a b : D) : Option Bool := match scalEq a b with
  | some k => some k
  | none => (match toPS S a, toPS S b with
    | some p, some q => if SeqAt.shaped p && SeqAt.shaped q then some (PyData.eqv p q) else none
    | _, _ => none)
def pNe (S : Store) (a b : D) : Option Bool := (pEq S a b).map (!·)

/-! ### order -/
def pLt (_ : Store) (a b : D) : Option Bool := match a, b with
  | .int i, .int j => some (decide (i < j))
  | .str x, .str y => some (decide (x < y))
  | _, _ => none
def pLe (_ : Store) (a b : D) : Option Bool := match a, b with
  | .int i, .int j => some (decide (i ≤ j))
  | .str x, .str y => some (!decide (y < x))
  | _, _ => none
def pGt (_ : Store) (a b : D) : Option Bool := match a, b with
  | .int i, .int j => some (decide (j < i))
  | .str x, .str y => some (decide (y < x))
  | _, _ => none
def pGe (_ : Store) (a b : D) : Option Bool := match a, b with
  | .int i, .int j => some (decide (j ≤ i))
  | .str x, .str y => some (!decide (x < y))
  | _, _ => none

/-! ### in -/
def flat : D → Bool
  | .non => true
  | .bl _ => true
  | .int _ => true
  | .str _ => true
  | _ => false
/-- == of plain values -/
def flatEq (a b : D) : Bool := match a, b with
  | .non, .non => true
  | .bl a, .bl b => a == b
  | .bl a, .int b => (if a then 1 else 0) == b
  | .int a, .bl b => a == (if b then 1 else 0)
  | .int a, .int b => a == b
  | .str a, .str b => decide (a = b)
  | _, _ => false
def asKy : D → Option Ky
  | .int i => some (.i i)
  | .str x => some (.s x)
  | _ => none
def valK (kvs : List (Ky × D)) (k : Ky) : Option D := (kvs.find? fun kv => decide (kv.1 = k)).map (·.2)
def pIn (S : Store) (a b : D) : Option Bool := match a, b with
  | .str [c], .str y => some (decide (c ∈ y))
  | a, .str _ => none
  | a, b => (match dctOf S b with
    | some kvs => (match asKy a with
      | some k => some (valK kvs k).isSome
      | none => none)
    | none => (match seqOf S b with
      | some ds => if flat a && ds.all flat then some (ds.any fun d => flatEq d a) else
          (match toP a, (lstOf S b).bind toPs with
          | some p, some ps => if SeqAt.shaped p && SeqAt.shaped (.list ps) then some (ps.any fun z => PyData.eqv z p) else none
          | _, _ => none)
      | none => none))
def pNotIn (S : Store) (a b : D) : Option Bool := (pIn S a b).map (!·)
/-- is None -/
def isNon : D → Bool
  | .non => true
  | _ => false
def pIs (_ : Store) (a b : D) : Option Bool := match b with
  | .non => some (isNon a)
  | _ => none
def pIsNot (S : Store) (a b : D) : Option Bool := (pIs S a b).map (!·)
def cmpOp (op : CmpOp) : Store → D → D → Option Bool := match op with
  | .Eq => pEq
  | .NotEq => pNe
  | .Lt => pLt
  | .LtE => pLe
  | .Gt => pGt
  | .GtE => pGe
  | .In => pIn
  | .NotIn => pNotIn
  | .Is => pIs
  | .IsNot => pIsNot

/-! ### places -/
def ixN (n : Nat) (i : Int) : Option Nat := if 0 ≤ i then (if i < n then some i.toNat else none) else if -(n : Int) ≤ i then some (i + n).toNat else none
def atI {α : Type} (xs : List α) (i : Int) : Option α := (ixN xs.length i).bind fun j => xs[j]?
def pIx (S : Store) (a b : D) : Option DX := match a, b with
  | .str x, .int i => if x.length ≤ LIM then (atI x i).map fun c => (.str [c], false) else none
  | a, b => (match dctOf S a with
    | some kvs => (match asKy b with
      | some k => (valK kvs k).map fun d => (d, false)
      | none => none)
    | none => (match seqOf S a with
      | some ds => (match b with
        | .int i => (atI ds i).map fun d => (d, false)
        | _ => none)
      | none => none))
def sIx (n d : Nat) : Option Int → Nat
  | none => d
  | some v => if v < 0 then (v + n).toNat else min v.toNat n
def cut {α : Type} (xs : List α) (lo hi : Option Int) : List α := (xs.drop (sIx xs.length 0 lo)).take (sIx xs.length xs.length hi - sIx xs.length 0 lo)
/-- a list, the script -/
def lsqOf (S : Store) : D → Option (List D)
  | .scr ns => some (ns.map .int)
  | d => lstOf S d
def pCut (S : Store) (lo hi : Option Int) (a : D) : Option DX := match a with
  | .str x => if x.length ≤ LIM then some (.str (cut x lo hi), false) else none
  | .tup ds => if sIx ds.length 0 lo = 0 ∧ sIx ds.length ds.length hi = ds.length then none else some (.tup (cut ds lo hi), false)
  | a => (match lsqOf S a with
    | some ds => some (.lst (cut ds lo hi), true)
    | none => none)
end Mi
namespace Mi
/-! ### built-in functions -/
def bLen (S : Store) (a : D) : Option DX := match a with
  | .str x => if x.length ≤ LIM then some (.int x.length, false) else none
  | a => (match seqOf S a with
    | some ds => some (.int ds.length, false)
    | none => (match a with
      | .ref i => (match S[i]? with
        | some (.dct kvs) => some (.int kvs.length, false)
        | _ => none)
      | _ => none))
def bAbs (_ : Store) (a : D) : Option DX := match a with
  | .int i => some (.int (if i < 0 then -i else i), false)
  | _ => none
def bInt (_ : Store) (a : D) : Option DX := match a with
  | .int i => some (.int i, false)
  | .bl b => some (.int (if b then 1 else 0), false)
  | .str x => if x.length ≤ 640 then (PySem.intText? (toStr x)).map fun n => (.int n, false) else none
  | _ => none
def bStr (_ : Store) (a : D) : Option DX := match a with
  | .int i => if i.natAbs.log2 < 1920 then some (.str (PySem.Str.ofString (toString i)).cps.toList, false) else none
  | .str x => some (.str x, false)
  | _ => none
def allI : List D → Option (List Int)
  | [] => some []
  | .int i :: ds => (allI ds).map (i :: ·)
  | _ :: _ => none
def allB : List D → Option (List Bool)
  | [] => some []
  | .bl i :: ds => (allB ds).map (i :: ·)
  | _ :: _ => none
def allS : List D → Option (List Tx)
  | [] => some []
  | .str i :: ds => (allS ds).map (i :: ·)
  | _ :: _ => none
def bSum (S : Store) (a : D) : Option DX := ((lsqOf S a).bind allI).map fun ns => (.int ns.sum, false)
def bAll (S : Store) (a : D) : Option DX := ((lsqOf S a).bind allB).map fun ns => (.bl (ns.all id), false)
def bAny (S : Store) (a : D) : Option DX := ((lsqOf S a).bind allB).map fun ns => (.bl (ns.any id), false)
def kyD : Ky → D
  | .i n => .int n
  | .s x => .str x
def bList (S : Store) (a : D) : Option DX := match dctOf S a with
  | some kvs => some (.lst (kvs.map fun kv => kyD kv.1), true)
  | none => (seqOf S a).map fun ds => (.lst ds, true)
def bTuple (S : Store) (a : D) : Option DX := (seqOf S a).map fun ds => (.tup ds, false)
/-- a dict, a key set -/
def putKy (kvs : List (Ky × D)) (k : Ky) (v : D) : List (Ky × D) :=
  if (kvs.any fun kv => decide (kv.1 = k)) = true then kvs.map (fun kv => if kv.1 = k then (kv.1, v) else kv) else kvs ++ [(k, v)]
def mergeKy (kvs more : List (Ky × D)) : List (Ky × D) := more.foldl (fun acc kv => putKy acc kv.1 kv.2) kvs
def pairs : List D → Option (List (Ky × D))
  | [] => some []
  | .tup [k, v] :: ds => (match asKy k, pairs ds with
    | some k', some r => some ((k', v) :: r)
    | _, _ => none)
  | _ :: _ => none
def bDict (S : Store) (a : D) : Option DX := match dctOf S a with
  | some kvs => some (.dct kvs, true)
  | none => ((lsqOf S a).bind pairs).map fun kvs => (.dct (mergeKy [] kvs), true)
def bMax2 (_ : Store) (a b : D) : Option DX := match a, b with
  | .int i, .int j => some (.int (if j > i then j else i), false)
  | _, _ => none
def bMin2 (_ : Store) (a b : D) : Option DX := match a, b with
  | .int i, .int j => some (.int (if j < i then j else i), false)
  | _, _ => none
def bOrd (_ : Store) (a : D) : Option DX := match a with
  | .str [c] => some (.int (c : Nat), false)
  | _ => none
def tyName (S : Store) : D → String
  | .non => "NoneType"
  | .bl _ => "bool"
  | .int _ => "int"
  | .str _ => "str"
  | .tup _ => "tuple"
  | .lst _ => "list"
  | .scr _ => "list"
  | .dct _ => "dict"
  | .ref i => (match S[i]? with
    | some (.lst _) => "list"
    | _ => "dict")
def isTy (a b : String) : Bool := decide (a = b) || (decide (a = "bool") && decide (b = "int"))
def okTy (b : String) : Bool := ["NoneType", "bool", "int", "str", "tuple", "list", "dict"].contains b
def there (S : Store) : D → Bool
  | .ref i => (S[i]?).isSome
  | _ => true
def bIs (ts : List String) (S : Store) (a : D) : Option DX := if there S a && ts.all okTy then some (.bl (ts.any fun t => isTy (tyName S a) t), false) else none
end Mi
namespace Mi
open PySem
/-! ### methods that change -/
def hApp : SO → List D → Option (SO × D)
  | .lst ds, [d] => if ds.length < LIM then some (.lst (ds ++ [d]), .non) else none
  | _, _ => none
def hExt : SO → List D → Option (SO × D)
  | .lst ds, [.lst es] => if ds.length + es.length ≤ LIM then some (.lst (ds ++ es), .non) else none
  | _, _ => none
def hPop : SO → List D → Option (SO × D)
  | .lst ds, [] => (ds[ds.length - 1]?).map fun d => (.lst ds.dropLast, d)
  | _, _ => none
def hPopAt : SO → List D → Option (SO × D)
  | .lst ds, [.int i] => if decide (-(2 ^ 63) ≤ i) && decide (i < 2 ^ 63) then (match seqIndex? i ds.length with
      | some k => (ds[k]?).map fun d => (.lst (ds.eraseIdx k), d)
      | none => none) else none
  | _, _ => none
def hPut : SO → D → D → Option SO
  | .lst ds, .int i, d => (ixN ds.length i).map fun j => .lst (ds.set j d)
  | .dct kvs, i, d => (match asKy i with
    | some k => if kvs.length < LIM then some (.dct (putKy kvs k d)) else none
    | none => none)
  | _, _, _ => none
end Mi
namespace Mi
open PySem
def mDct (kvs : List (M D × M D)) : M DX := mBind (mPairs kvs) (dctK asKy (mergeKy []))
/-- d.get(k, z) -/
def getK (z : D) (S : Store) (a k : D) : Option D := match dctOf S a, asKy k with
  | some kvs, some k => some ((valK kvs k).getD z)
  | _, _ => none
/-- x.index(y), texts -/
def sIndex (_ : Store) (a b : D) : Option DX := match a, b with
  | .str x, .str y => (match Builtin.Str.occurrences (toStr x) (toStr y) 0 x.length 1 with
    | i :: _ => some (.int (i : Nat), false)
    | [] => none)
  | _, _ => none
end Mi
namespace Mi
def itItems (kvs : List (Ky × D)) : List D := kvs.map fun kv => .tup [kyD kv.1, kv.2]
def itKeys (kvs : List (Ky × D)) : List D := kvs.map fun kv => kyD kv.1
def itVals (kvs : List (Ky × D)) : List D := kvs.map fun kv => kv.2
end Mi
set_option Elab.async false
set_option linter.all false
set_option maxRecDepth 100000
/-! Mi, part 2: what stands in the heap for it. -/
namespace Mi
open PySem PySem.Spec L2

theorem toStr_tl (x : Tx) : (toStr x).cps.toList = x := rfl
theorem toStr_len (x : Tx) : (toStr x).length = x.length := by simp [toStr, Str.length]
theorem toStr_inj {x y : Tx} (h : toStr x = toStr y) : x = y := by
  have e : (toStr x).cps.toList = (toStr y).cps.toList := by rw [h]
  exact e
theorem toStr_mk (z : Str) : toStr z.cps.toList = z := by
  obtain ⟨c⟩ := z
  show (⟨c.toList.toArray⟩ : Str) = ⟨c⟩
  simp
def kyK : Ky → Key
  | .i n => .inl n
  | .s x => .inr (toStr x)
theorem kyK_inj : ∀ {k l : Ky}, kyK k = kyK l → k = l
  | .i a, .i b, h => by rw [Sum.inl.inj h]
  | .s a, .s b, h => by rw [toStr_inj (Sum.inr.inj h)]
  | .i a, .s b, h => by cases h
  | .s a, .i b, h => by cases h
mutual
/-- the value v is d; F: what is frozen, r: the shared objects' addresses -/
inductive RepV (K : PySem.W.Frag) (F : Hp) (r : List Addr) : D → V → Prop
  | non : RepV K F r .non .non
  | bl (b : Bool) : RepV K F r (.bl b) (.bl b)
  | int (i : Int) : RepV K F r (.int i) (.int i)
  | str (x : Tx) : RepV K F r (.str x) (.str (toStr x))
  | tup {a : Addr} {vs : List V} {ds : List D} : SqT K F a vs → RepL K F r ds vs → RepV K F r (.tup ds) (.ref a)
  | lst {a : Addr} {vs : List V} {ds : List D} : F a = some (.lst vs) → RepL K F r ds vs → RepV K F r (.lst ds) (.ref a)
  | scr {a : Addr} {ns : List Int} : SqL K F a (ns.map V.int) → RepV K F r (.scr ns) (.ref a)
  | dct {a : Addr} {kvs : List (Key × V)} {ds : List (Ky × D)} : F a = some (.dK kvs) → RepK K F r ds kvs → RepV K F r (.dct ds) (.ref a)
  | ref {i : Nat} {a : Addr} : r[i]? = some a → RepV K F r (.ref i) (.ref a)
inductive RepL (K : PySem.W.Frag) (F : Hp) (r : List Addr) : List D → List V → Prop
  | nil : RepL K F r [] []
  | cons {d : D} {v : V} {ds : List D} {vs : List V} : RepV K F r d v → RepL K F r ds vs → RepL K F r (d :: ds) (v :: vs)
inductive RepK (K : PySem.W.Frag) (F : Hp) (r : List Addr) : List (Ky × D) → List (Key × V) → Prop
  | nil : RepK K F r [] []
  | cons {k : Ky} {d : D} {v : V} {ds : List (Ky × D)} {vs : List (Key × V)} : RepV K F r d v → RepK K F r ds vs → RepK K F r ((k, d) :: ds) ((kyK k, v) :: vs)
end
/-- the fields of an exception -/
inductive RepF (K : PySem.W.Frag) (F : Hp) (r : List Addr) : List (Tx × D) → List (Str × V) → Prop
  | nil : RepF K F r [] []
  | cons {k : Tx} {d : D} {v : V} {ds : List (Tx × D)} {vs : List (Str × V)} : RepV K F r d v → RepF K F r ds vs → RepF K F r ((k, d) :: ds) ((toStr k, v) :: vs)
/-- more is frozen, more is shared -/
structure Le (F : Hp) (r : List Addr) (F' : Hp) (r' : List Addr) : Prop where
  fz : ∀ a u, F a = some u → F' a = some u
  sh : r <+: r'
theorem Le.refl {F : Hp} {r : List Addr} : Le F r F r := ⟨fun _ _ h => h, List.prefix_rfl⟩
theorem Le.trans {F F1 F2 : Hp} {r r1 r2 : List Addr} (a : Le F r F1 r1) (b : Le F1 r1 F2 r2) : Le F r F2 r2 := ⟨fun c u h => b.fz c u (a.fz c u h), a.sh.trans b.sh⟩
theorem Le.at {F F' : Hp} {r r' : List Addr} (l : Le F r F' r') {i : Nat} {a : Addr} (h : r[i]? = some a) : r'[i]? = some a := by
  obtain ⟨t, rfl⟩ := l.sh
  obtain ⟨hi, _⟩ := List.getElem?_eq_some_iff.mp h
  rw [List.getElem?_append_left hi]
  exact h
section
variable {K : PySem.W.Frag} {F F' H : Hp} {r r' : List Addr}
theorem SqT.up (h : ∀ a u, F a = some u → F' a = some u) {a : Addr} {vs : List V} (q : SqT K F a vs) : SqT K F' a vs := by
  rcases q with q | q
  · rcases q with q | ⟨o, q⟩
    · exact .inl (.inl (h _ _ q))
    · exact .inl (.inr ⟨o, h _ _ q⟩)
  · exact .inr q
theorem SqL.up (h : ∀ a u, F a = some u → F' a = some u) {a : Addr} {vs : List V} (q : SqL K F a vs) : SqL K F' a vs := by
  rcases q with q | q
  · rcases q with q | ⟨o, q⟩
    · exact .inl (.inl (h _ _ q))
    · exact .inl (.inr ⟨o, h _ _ q⟩)
  · exact .inr q
mutual
theorem RepV.le (l : Le F r F' r') : ∀ {d : D} {v : V}, RepV K F r d v → RepV K F' r' d v
  | _, _, .non => .non
  | _, _, .bl b => .bl b
  | _, _, .int i => .int i
  | _, _, .str x => .str x
  | _, _, .tup h q => .tup (SqT.up l.fz h) (RepL.le l q)
  | _, _, .lst h q => .lst (l.fz _ _ h) (RepL.le l q)
  | _, _, .scr h => .scr (SqL.up l.fz h)
  | _, _, .dct h q => .dct (l.fz _ _ h) (RepK.le l q)
  | _, _, .ref h => .ref (l.at h)
theorem RepL.le (l : Le F r F' r') : ∀ {d : List D} {v : List V}, RepL K F r d v → RepL K F' r' d v
  | _, _, .nil => .nil
  | _, _, .cons h q => .cons (RepV.le l h) (RepL.le l q)
theorem RepK.le (l : Le F r F' r') : ∀ {d : List (Ky × D)} {v : List (Key × V)}, RepK K F r d v → RepK K F' r' d v
  | _, _, .nil => .nil
  | _, _, .cons h q => .cons (RepV.le l h) (RepK.le l q)
end
theorem RepF.le (l : Le F r F' r') : ∀ {d : List (Tx × D)} {v : List (Str × V)}, RepF K F r d v → RepF K F' r' d v
  | _, _, .nil => .nil
  | _, _, .cons h q => .cons (RepV.le l h) (RepF.le l q)
theorem RepL.length : ∀ {ds : List D} {vs : List V}, RepL K F r ds vs → ds.length = vs.length
  | _, _, .nil => rfl
  | _, _, .cons _ q => by rw [List.length_cons, List.length_cons, RepL.length q]
theorem RepK.length : ∀ {ds : List (Ky × D)} {vs : List (Key × V)}, RepK K F r ds vs → ds.length = vs.length
  | _, _, .nil => rfl
  | _, _, .cons _ q => by rw [List.length_cons, List.length_cons, RepK.length q]
theorem RepL.get : ∀ {ds : List D} {vs : List V} {i : Nat} {d : D}, RepL K F r ds vs → ds[i]? = some d → ∃ v, vs[i]? = some v ∧ RepV K F r d v
  | _, _, _, _, .nil, e => by simp at e
  | _, _, 0, _, .cons h _, e => by simp at e; subst e; exact ⟨_, rfl, h⟩
  | _, _, i + 1, d, .cons _ q, e => by
    obtain ⟨v, h1, h2⟩ := RepL.get (i := i) (d := d) q (by simpa using e)
    exact ⟨v, by simpa using h1, h2⟩
theorem RepL.append : ∀ {ds es : List D} {vs us : List V}, RepL K F r ds vs → RepL K F r es us → RepL K F r (ds ++ es) (vs ++ us)
  | _, _, _, _, .nil, s => s
  | _, _, _, _, .cons h q, s => .cons h (RepL.append q s)
theorem RepL.set : ∀ {ds : List D} {vs : List V} {d : D} {v : V} (i : Nat), RepL K F r ds vs → RepV K F r d v → RepL K F r (ds.set i d) (vs.set i v)
  | _, _, _, _, _, .nil, _ => .nil
  | _, _, _, _, 0, .cons _ q, h => .cons h q
  | _, _, _, _, i + 1, .cons g q, h => .cons g (RepL.set i q h)
theorem RepL.take : ∀ {ds : List D} {vs : List V} (n : Nat), RepL K F r ds vs → RepL K F r (ds.take n) (vs.take n)
  | _, _, 0, _ => .nil
  | _, _, _ + 1, .nil => .nil
  | _, _, n + 1, .cons h q => .cons h (RepL.take n q)
theorem RepL.drop : ∀ {ds : List D} {vs : List V} (n : Nat), RepL K F r ds vs → RepL K F r (ds.drop n) (vs.drop n)
  | _, _, 0, q => q
  | _, _, _ + 1, .nil => .nil
  | _, _, n + 1, .cons _ q => RepL.drop n q
theorem RepL.eraseIdx : ∀ {ds : List D} {vs : List V} (n : Nat), RepL K F r ds vs → RepL K F r (ds.eraseIdx n) (vs.eraseIdx n)
  | _, _, _, .nil => .nil
  | _, _, 0, .cons _ q => q
  | _, _, n + 1, .cons h q => .cons h (RepL.eraseIdx n q)
theorem RepL.dropLast {ds : List D} {vs : List V} (h : RepL K F r ds vs) : RepL K F r ds.dropLast vs.dropLast := by
  rw [List.dropLast_eq_take, List.dropLast_eq_take, h.length]
  exact h.take _
theorem RepL.rep {ds : List D} {vs : List V} (h : RepL K F r ds vs) : ∀ k : Nat, RepL K F r (List.replicate k ds).flatten (List.replicate k vs).flatten
  | 0 => .nil
  | k + 1 => by
    rw [List.replicate_succ, List.replicate_succ, List.flatten_cons, List.flatten_cons]
    exact h.append (RepL.rep h k)
end

/-! ### the state -/
/-- a def: its object, its data, its parameters, its name -/
structure FnI where
  f : Addr
  fd : FuncData
  ps : List Str
  name : Str
/-- what is fixed: the written part, the tables of code objects, the calls, the exception classes, the exception that is handled, the lambda that was handed in -/
structure G where
  K : PySem.W.Frag
  T : List (Addr × Str)
  mg : Str → Option Value
  tab : Nat → Option FnI
  lv : Nat
  call : Nat → List Sl → (Store → CR) → Store → CR
  lamf : Store → CR
  dep : Nat
  lo : Nat → List Sl → (Store → CR) → Store → CR
  cls : Nat → Addr
  exc : Nat → Option (Str × List Tx)
  ex : Option (Addr × Addr)
  lm : Option (Addr × Addr × Str)
  lF : Hp
  lr : List Addr
/-- two frames further in -/
def G.low (g : G) : G := { g with call := g.lo, lamf := fun _ => .bad, dep := 0, lo := badC, lv := g.dep, ex := none, lm := none }
/-- in the def that got a lambda: its object, its code object, its name; what was frozen then -/
def G.met (g : G) (lm : Addr × Addr × Str) (lf : Store → CR) (F : Hp) (r : List Addr) : G := { g with call := badC, lamf := lf, dep := 0, lo := badC, lv := g.dep + 1, ex := none, lm := some lm, lF := F, lr := r }
def G.cx (g : G) : Ctx := ⟨g.call, g.lamf, g.dep, g.lo⟩
/-- a def's entry: what was frozen, shared, there; L: what is locked at the moment; P: what is being made; Lk: dicts that are walked -/
structure Bs where
  F : Hp
  r : List Addr
  H : Hp
  L : List Addr
  P : Hp
  Lk : Hp
/-- what may be frozen -/
def Fro : HO → Prop
  | .lst _ => True
  | .tup _ => True
  | .dK _ => True
  | .frz _ (.lst _) => True
  | _ => False
def isTbl : HO → Bool
  | .tbl _ => true
  | _ => false
/-- without the tables of code objects -/
def strip (H : Hp) : Hp := fun a => (H a).filter fun o => !isTbl o
theorem strip_of {H : Hp} {a : Addr} {o : HO} (h : H a = some o) (t : isTbl o = false) : strip H a = some o := by unfold strip; rw [h, Option.filter_some, t]; rfl
theorem strip_some {H : Hp} {a : Addr} {o : HO} (h : strip H a = some o) : H a = some o ∧ isTbl o = false := by
  unfold strip at h
  obtain ⟨h1, h2⟩ := Option.filter_eq_some_iff.mp h
  exact ⟨h1, by simpa using h2⟩
theorem strip_none {H : Hp} {a : Addr} (h : H a = none) : strip H a = none := by unfold strip; rw [h]; rfl
theorem strip_ne {H : Hp} {a : Addr} (h : strip H a ≠ none) : ∃ o, H a = some o ∧ isTbl o = false := by
  cases e : strip H a with
  | none => exact absurd e h
  | some o => exact ⟨o, strip_some e⟩
/-- a shared object -/
def ObR (K : PySem.W.Frag) (F : Hp) (r : List Addr) (H : Hp) : SO → Addr → Prop
  | .lst ds, a => ∃ vs, H a = some (.lst vs) ∧ RepL K F r ds vs
  | .dct ds, a => ∃ kvs, H a = some (.dK kvs) ∧ RepK K F r ds kvs
/-- what no one else holds -/
def CoR (K : PySem.W.Frag) (F : Hp) (r : List Addr) (H : Hp) : D → Addr → Prop
  | .lst ds, a => ∃ vs, H a = some (.lst vs) ∧ RepL K F r ds vs
  | .dct ds, a => ∃ kvs, H a = some (.dK kvs) ∧ RepK K F r ds kvs
  | _, _ => False
/-- the frozen and the shared ones as they stand -/
structure E1 (g : G) (F : Hp) (r : List Addr) (S : Store) (H : Hp) : Prop where
  hold : ∀ a u, F a = some u → H a = some u ∨ ∃ kvs o, u = .dK kvs ∧ H a = some (.frz o u)
  fro : ∀ a u, F a = some u → Fro u
  len : r.length = S.length
  sto : ∀ (i : Nat) (o : SO) (a : Addr), S[i]? = some o → r[i]? = some a → ObR g.K F r H o a
  rnd : r.Nodup
  rF : ∀ a ∈ r, F a = none
  tabs : LamX.Tabs g.T H
  tF : ∀ p ∈ g.T, F p.1 = none
  tr : ∀ p ∈ g.T, p.1 ∉ r
def ownAt (f : Fr) (σ : St) (k : Nat) (a : Addr) : Prop := (∃ d, f[k]? = some (.own d)) ∧ σ[k]? = some (some (.ref a))
/-- a place -/
def SlR (g : G) (F : Hp) (r : List Addr) (H : Hp) : Sl → Option (Option V) → Prop
  | .un, _ => True
  | .val d, o => ∃ v, o = some (some v) ∧ RepV g.K F r d v
  | .own d, o => ∃ a, o = some (some (.ref a)) ∧ CoR g.K F r H d a
  | .ex fs, o => ∃ a dd vs, g.ex = some (a, dd) ∧ o = some (some (.ref a)) ∧ H dd = some (.xd vs) ∧ RepF g.K F r fs vs
  | .lam, o => ∃ a c q, (g.lm = some (a, c, q) ∧ Le g.lF g.lr F r) ∧ o = some (some (.ref a)) ∧ H c = some (LamX.CodeO c q)
/-- what came since the entry -/
structure Since (B : Bs) (F : Hp) (r : List Addr) (H : Hp) : Prop where
  le : Le B.F B.r F r
  there : ∀ a, B.H a ≠ none → ∃ o, H a = some o ∧ isTbl o = false
  keep : ∀ a o, B.H a = some o → isTbl o = false → a ∉ B.r → H a = some o ∨ (a ∈ B.L ∧ ∃ ob, H a = some (.frz ob o))
  nF : ∀ a, F a ≠ none → B.F a ≠ none ∨ B.H a = none
  nr : ∀ a ∈ r, a ∈ B.r ∨ B.H a = none
structure SR (g : G) (B : Bs) (F : Hp) (r : List Addr) (f : Fr) (S : Store) (σ : St) (H : Hp) : Prop where
  e1 : E1 g F r S H
  len : f.length = σ.length
  slot : ∀ (k : Nat) (sl : Sl), f[k]? = some sl → SlR g F r H sl (σ[k]?)
  ow : ∀ k a, ownAt f σ k a → F a = none ∧ a ∉ r ∧ B.H a = none
  od : ∀ j k a, ownAt f σ j a → ownAt f σ k a → j = k
  bs : Since B F r H
  pin : ∀ a o, B.P a = some o → H a = some o ∧ isTbl o = false ∧ F a = none ∧ a ∉ r ∧ ∀ k, ¬ ownAt f σ k a
  lck : ∀ a o, B.Lk a = some o → H a = some o ∧ (∃ ob u, o = .frz ob u) ∧ F a ≠ none ∧ a ∉ r
/-- a value that no one else holds stands at a -/
structure New (g : G) (B : Bs) (F : Hp) (r : List Addr) (f : Fr) (σ : St) (H : Hp) (d : D) (a : Addr) : Prop where
  co : CoR g.K F r H d a
  nF : F a = none
  nr : a ∉ r
  nB : B.H a = none
  no : ∀ k, ¬ ownAt f σ k a
  np : B.P a = none
/-- a value told: new, or frozen -/
def RX (g : G) (B : Bs) (F : Hp) (r : List Addr) (f : Fr) (σ : St) (H : Hp) (d : D) (fr : Bool) (v : V) : Prop :=
  if fr = true then ∃ a, v = .ref a ∧ New g B F r f σ H d a else RepV g.K F r d v
end Mi
set_option Elab.async false
set_option linter.all false
set_option maxRecDepth 100000
/-! Mi, part 3: readings. -/
namespace Mi
open PySem PySem.Spec L2
/-- what is wanted of an evaluation's end -/
def Run {α β : Type} (g : G) (W : WX) (P : Bs → Hp → List Addr → Fr → L2.St → Hp → α → β → Prop) (B : Bs) (F : Hp) (r : List Addr) (σ : L2.St) (res : R α) (Q : β → Hp → Prop) : Prop := match res with
  | .ok a f S => ∀ F' r' H' v, Le F r F' r' → SR g B F' r' f S σ H' → P B F' r' f σ H' a v → Q v H'
  | .exc c fs f S => ∀ F' r' H' dd vs, Le F r F' r' → SR g B F' r' f S σ H' → H' dd = some (.xd vs) → RepF g.K F' r' fs vs → W (.ref (g.cls c)) (some dd) σ H'
  | .bad => False
/-- the reading of an evaluation -/
def tM {α β : Type} (g : G) (W : WX) (P : Bs → Hp → List Addr → Fr → L2.St → Hp → α → β → Prop) (m : M α) : L2.St → Hp → (β → Hp → Prop) → Prop := fun σ H Q =>
  ∃ B F r f S, SR g B F r f S σ H ∧ Run g W P B F r σ (m g.cx f S) Q
section
variable {α β γ δ : Type} {g : G} {W : WX} {P : Bs → Hp → List Addr → Fr → L2.St → Hp → α → β → Prop} {P2 : Bs → Hp → List Addr → Fr → L2.St → Hp → γ → δ → Prop} {B : Bs} {F F' H : Hp} {r r' : List Addr} {σ : L2.St} {res : R α} {Q Q' : β → Hp → Prop} {f : Fr} {S : Store}
theorem Run.le (h : Run g W P B F r σ res Q) (l : Le F r F' r') : Run g W P B F' r' σ res Q := by
  cases res with
  | ok a f S => exact fun F2 r2 H2 v l2 => h F2 r2 H2 v (l.trans l2)
  | exc c fs f S => exact fun F2 r2 H2 dd vs l2 => h F2 r2 H2 dd vs (l.trans l2)
  | bad => exact h
theorem Run.mono (h : Run g W P B F r σ res Q) (q : ∀ v H, Q v H → Q' v H) : Run g W P B F r σ res Q' := by
  cases res with
  | ok a f S => exact fun F2 r2 H2 v l2 s p => q _ _ (h F2 r2 H2 v l2 s p)
  | exc c fs f S => exact h
  | bad => exact h
/-- an evaluation behind another one -/
theorem Run.bind {m : R α} {k : α → M γ} {Q : δ → Hp → Prop} (h : Run g W P2 B F r σ (m.bind fun a f S => k a g.cx f S) Q) :
    Run g W P B F r σ m fun v H1 => ∃ a F' r' f S, Le F r F' r' ∧ SR g B F' r' f S σ H1 ∧ P B F' r' f σ H1 a v ∧ Run g W P2 B F' r' σ (k a g.cx f S) Q := by
  cases m with
  | ok a f S => exact fun F2 r2 H2 v l2 s p => ⟨a, F2, r2, f, S, l2, s, p, Run.le h l2⟩
  | exc c fs f S => exact h
  | bad => exact h
theorem tM.mono {m : M α} (h : tM g W P m σ H Q) (q : ∀ v H, Q v H → Q' v H) : tM g W P m σ H Q' := by
  obtain ⟨B, F, r, f, S, s, z⟩ := h
  exact ⟨B, F, r, f, S, s, z.mono q⟩
end
theorem PE.imp {X : Cx} {e : Expr} {t t' : TE} (h : PE X e t) (q : ∀ σ H Q, t' σ H Q → t σ H Q) : PE X e t' := ⟨fun pins s σ H Q I hw => h.run pins s σ H Q I (q σ H Q hw)⟩
theorem PT.imp {X : Cx} {e : Expr} {t t' : TT} (h : PT X e t) (q : ∀ σ H Q, t' σ H Q → t σ H Q) : PT X e t' := ⟨fun pins s σ H Q I hw => h.run pins s σ H Q I (q σ H Q hw)⟩
theorem PW.imp {X : Cx} {e : Expr} {t t' : TT} (h : PW X e t) (q : ∀ σ H Q, t' σ H Q → t σ H Q) : PW X e t' := ⟨fun wh pins s σ H Q I hw => h.run wh pins s σ H Q I (q σ H Q hw)⟩
theorem PA.imp {X : Cx} {e : List Expr} {t t' : TA} (h : PA X e t) (q : ∀ σ H Q, t' σ H Q → t σ H Q) : PA X e t' := ⟨fun p pins s σ H Q I hw => h.run p pins s σ H Q I (q σ H Q hw)⟩
theorem PS.imp {X : Cx} {e : Stmt} {t t' : TS} (h : PS X e t) (q : ∀ D σ H, t' D σ H → t D σ H) : PS X e t' := ⟨fun pins s σ H D I hw => h.run pins s σ H D I (q D σ H hw)⟩
theorem PSs.imp {X : Cx} {e : List Stmt} {t t' : TS} (h : PSs X e t) (q : ∀ D σ H, t' D σ H → t D σ H) : PSs X e t' := ⟨fun pins s σ H D I hw => h.run pins s σ H D I (q D σ H hw)⟩

/-! ### values -/
/-- a value -/
def PD (g : G) : Bs → Hp → List Addr → Fr → L2.St → Hp → D → V → Prop := fun _ F r _ _ _ d v => RepV g.K F r d v
/-- a value that may be new -/
def PX (g : G) : Bs → Hp → List Addr → Fr → L2.St → Hp → DX → V → Prop := fun B F r f σ H d v => RX g B F r f σ H d.1 d.2 v
/-- a truth value -/
def PB : Bs → Hp → List Addr → Fr → L2.St → Hp → Bool → Bool → Prop := fun _ _ _ _ _ _ a b => a = b
/-- some values -/
def PLs (g : G) : Bs → Hp → List Addr → Fr → L2.St → Hp → List D → List V → Prop := fun _ F r _ _ _ d v => RepL g.K F r d v
/-- an operand: a place, or a value -/
def PO1 (g : G) (F : Hp) (r : List Addr) (σ : L2.St) : Nat ⊕ D → V → Prop
  | .inl k, v => σ[k]? = some (some v)
  | .inr d, v => RepV g.K F r d v
def POp (g : G) : Bs → Hp → List Addr → Fr → L2.St → Hp → Nat ⊕ D → V → Prop := fun _ F r _ σ _ x v => PO1 g F r σ x v
inductive PO2 (g : G) (F : Hp) (r : List Addr) (σ : L2.St) : List (Nat ⊕ D) → List V → Prop
  | nil : PO2 g F r σ [] []
  | cons {x : Nat ⊕ D} {v : V} {xs : List (Nat ⊕ D)} {vs : List V} : PO1 g F r σ x v → PO2 g F r σ xs vs → PO2 g F r σ (x :: xs) (v :: vs)
def POs (g : G) : Bs → Hp → List Addr → Fr → L2.St → Hp → List (Nat ⊕ D) → List V → Prop := fun _ F r _ σ _ x v => PO2 g F r σ x v
abbrev tE (g : G) (W : WX) (m : M D) : TE := tM g W (PD g) m
abbrev tX (g : G) (W : WX) (m : M DX) : TE := tM g W (PX g) m
abbrev tB (g : G) (W : WX) (m : M Bool) : TT := tM g W PB m
/-- a value as it stands: frozen, or held by its place -/
def BV (g : G) (F : Hp) (r : List Addr) (H : Hp) (d : D) (v : V) : Prop := RepV g.K F r d v ∨ ∃ a, v = .ref a ∧ CoR g.K F r H d a
inductive BVs (g : G) (F : Hp) (r : List Addr) (H : Hp) : List D → List V → Prop
  | nil : BVs g F r H [] []
  | cons {d : D} {v : V} {ds : List D} {vs : List V} : BV g F r H d v → BVs g F r H ds vs → BVs g F r H (d :: ds) (v :: vs)
section
variable {g : G} {W : WX} {B : Bs} {F F' H H' : Hp} {r r' : List Addr} {σ : L2.St} {f : Fr} {S : Store}
theorem PO1.le {x : Nat ⊕ D} {v : V} (h : PO1 g F r σ x v) (l : Le F r F' r') : PO1 g F' r' σ x v := by
  cases x with
  | inl k => exact h
  | inr d => exact RepV.le l h
theorem SR.peek (s : SR g B F r f S σ H) {k : Nat} {d : D} (h : peek f k = some d) : ∃ v, σ[k]? = some (some v) ∧ BV g F r H d v := by
  unfold Mi.peek at h
  cases e : f[k]? with
  | none => rw [e] at h; cases h
  | some sl =>
    rw [e] at h
    have z := s.slot k sl e
    cases sl with
    | val d' =>
      cases h
      obtain ⟨v, h1, h2⟩ := z
      exact ⟨v, h1, .inl h2⟩
    | own d' =>
      cases h
      obtain ⟨a, h1, h2⟩ := z
      exact ⟨_, h1, .inr ⟨a, rfl, h2⟩⟩
    | un => cases h
    | ex fs => cases h
    | lam => cases h
theorem SR.opR (s : SR g B F r f S σ H) {x : Nat ⊕ D} {v : V} {d : D} (p : PO1 g F r σ x v) (h : opR f x = some d) : BV g F r H d v := by
  cases x with
  | inl k =>
    obtain ⟨v', h1, h2⟩ := s.peek (show Mi.peek f k = some d from h)
    have p' : σ[k]? = some (some v) := p
    rw [h1] at p'
    cases p'
    exact h2
  | inr e =>
    have h' : some e = some d := h
    cases h'
    exact .inl p
theorem SR.opsR (s : SR g B F r f S σ H) : ∀ {xs : List (Nat ⊕ D)} {vs : List V} {ds : List D}, PO2 g F r σ xs vs → opsR f xs = some ds → BVs g F r H ds vs
  | _, _, ds, .nil, h => by
    have h' : some [] = some ds := h
    cases h'
    exact .nil
  | x :: xs, _, ds, .cons p q, h => by
    unfold Mi.opsR at h
    split at h
    · rename_i d ds' e1 e2
      cases h
      exact .cons (s.opR p e1) (s.opsR q e2)
    · cases h
theorem CoR.le {d : D} {a : Addr} (h : CoR g.K F r H d a) (l : Le F r F' r') : CoR g.K F' r' H d a := by
  cases d with
  | lst ds => obtain ⟨vs, y1, y2⟩ := h; exact ⟨vs, y1, y2.le l⟩
  | dct ds => obtain ⟨vs, y1, y2⟩ := h; exact ⟨vs, y1, y2.le l⟩
  | _ => exact h
theorem ObR.le {o : SO} {a : Addr} (h : ObR g.K F r H o a) (l : Le F r F' r') : ObR g.K F' r' H o a := by
  cases o with
  | lst ds => obtain ⟨vs, y1, y2⟩ := h; exact ⟨vs, y1, y2.le l⟩
  | dct ds => obtain ⟨vs, y1, y2⟩ := h; exact ⟨vs, y1, y2.le l⟩
theorem SlR.le {sl : Sl} {o : Option (Option V)} (h : SlR g F r H sl o) (l : Le F r F' r') : SlR g F' r' H sl o := by
  cases sl with
  | un => trivial
  | val d => obtain ⟨v, z1, z2⟩ := h; exact ⟨v, z1, z2.le l⟩
  | own d => obtain ⟨b, z1, z2⟩ := h; exact ⟨b, z1, z2.le l⟩
  | ex fs => obtain ⟨a', dd, vs, z1, z2, z3, z4⟩ := h; exact ⟨a', dd, vs, z1, z2, z3, z4.le l⟩
  | lam => obtain ⟨a, c, q, ⟨z1, z0⟩, z2, z3⟩ := h; exact ⟨a, c, q, ⟨z1, z0.trans l⟩, z2, z3⟩
theorem E1.noT (s : E1 g F r S H) {a : Addr} {u : HO} (hu : H a = some u) (ht : isTbl u = false) : ∀ p ∈ g.T, p.1 ≠ a := fun p hp e => by
  obtain ⟨ps, h1, _⟩ := s.tabs p hp
  rw [e, hu] at h1
  cases h1
  cases ht
theorem Fro.noT {u : HO} (h : Fro u) : isTbl u = false := by
  cases u <;> first | rfl | exact h.elim
/-- an object that no one else holds is frozen where it stands -/
theorem SR.fix (s : SR g B F r f S σ H) {a : Addr} {u : HO} (hu : H a = some u) (hf : Fro u) (nF : F a = none) (nr : a ∉ r) (nB : B.H a = none) (no : ∀ k, ¬ ownAt f σ k a) (np : B.P a = none) : Le F r (upd F a u) r ∧ SR g B (upd F a u) r f S σ H := by
  have le : Le F r (upd F a u) r := ⟨fun b o e => by rw [upd_ne (fun z => by rw [z, nF] at e; cases e)]; exact e, List.prefix_rfl⟩
  refine ⟨le, ⟨⟨fun b o e => ?_, fun b o e => ?_, s.e1.len, fun i o b h1 h2 => (s.e1.sto i o b h1 h2).le le, s.e1.rnd, fun b hb => ?_, s.e1.tabs, fun p hp => ?_, s.e1.tr⟩, s.len, fun k sl e => (s.slot k sl e).le le, fun k b ha => ?_, s.od, ⟨s.bs.le.trans le, s.bs.there, s.bs.keep, fun b hb => ?_, s.bs.nr⟩, fun b o hb => ?_, fun b o hb => ?_⟩⟩
  · by_cases hb : b = a
    · subst hb; rw [upd_same] at e; cases e; exact .inl hu
    · rw [upd_ne hb] at e; exact s.e1.hold b o e
  · by_cases hb : b = a
    · subst hb; rw [upd_same] at e; cases e; exact hf
    · rw [upd_ne hb] at e; exact s.e1.fro b o e
  · have hba : b ≠ a := fun z => nr (by rw [← z]; exact hb)
    rw [upd_ne hba]; exact s.e1.rF b hb
  · rw [upd_ne (s.e1.noT hu hf.noT p hp)]; exact s.e1.tF p hp
  · obtain ⟨h1, h2, h3⟩ := s.ow k b ha
    have hba : b ≠ a := fun z => no k (by rw [← z]; exact ha)
    refine ⟨?_, h2, h3⟩
    rw [upd_ne hba]
    exact h1
  · by_cases hba : b = a
    · subst hba; exact .inr nB
    · rw [upd_ne hba] at hb; exact s.bs.nF b hb
  · obtain ⟨h1, h2, h3, h4, h5⟩ := s.pin b o hb
    have hba : b ≠ a := fun z => by rw [z, np] at hb; cases hb
    exact ⟨h1, h2, by rw [upd_ne hba]; exact h3, h4, h5⟩
  · obtain ⟨h1, h2, h3, h4⟩ := s.lck b o hb
    have hba : b ≠ a := fun z => h3 (by rw [z]; exact nF)
    exact ⟨h1, h2, by rw [upd_ne hba]; exact h3, h4⟩
/-- a new value frozen where it stands -/
theorem SR.freeze (s : SR g B F r f S σ H) {d : D} {a : Addr} (n : New g B F r f σ H d a) : ∃ F', Le F r F' r ∧ SR g B F' r f S σ H ∧ RepV g.K F' r d (.ref a) := by
  have co := n.co
  cases d with
  | lst ds =>
    obtain ⟨vs, h1, h2⟩ := co
    obtain ⟨l, z⟩ := s.fix h1 trivial n.nF n.nr n.nB n.no n.np
    exact ⟨_, l, z, .lst upd_same (h2.le l)⟩
  | dct ds =>
    obtain ⟨vs, h1, h2⟩ := co
    obtain ⟨l, z⟩ := s.fix h1 trivial n.nF n.nr n.nB n.no n.np
    exact ⟨_, l, z, .dct upd_same (h2.le l)⟩
  | _ => exact co.elim
/-- a free address -/
theorem SR.free (s : SR g B F r f S σ H) {p : Addr} (hp : H p = none) : F p = none ∧ p ∉ r ∧ B.H p = none ∧ (∀ k, ¬ ownAt f σ k p) ∧ (∀ q ∈ g.T, q.1 ≠ p) ∧ B.P p = none := by
  refine ⟨?_, fun hm => ?_, ?_, fun k ⟨⟨d, h1⟩, h2⟩ => ?_, fun q hq e => ?_, ?_⟩
  · cases e : F p with
    | none => rfl
    | some u =>
      rcases s.e1.hold p u e with z | ⟨_, _, _, z⟩ <;> rw [hp] at z <;> cases z
  · obtain ⟨i, hi⟩ := List.mem_iff_getElem?.mp hm
    have hl := s.e1.len
    obtain ⟨hlt, _⟩ := List.getElem?_eq_some_iff.mp hi
    have hS : S[i]? = some S[i] := List.getElem?_eq_getElem (by omega)
    have z := s.e1.sto i _ p hS hi
    cases hso : S[i] with
    | lst ds => rw [hso] at z; obtain ⟨vs, z1, _⟩ := z; rw [hp] at z1; cases z1
    | dct ds => rw [hso] at z; obtain ⟨vs, z1, _⟩ := z; rw [hp] at z1; cases z1
  · cases e : B.H p with
    | none => rfl
    | some u => obtain ⟨o, z, _⟩ := s.bs.there p (by rw [e]; simp); rw [hp] at z; cases z
  · obtain ⟨a, z1, z2⟩ := s.slot k _ h1
    rw [h2] at z1
    cases z1
    cases d with
    | lst ds => obtain ⟨vs, z1, _⟩ := z2; rw [hp] at z1; cases z1
    | dct ds => obtain ⟨vs, z1, _⟩ := z2; rw [hp] at z1; cases z1
    | _ => exact z2.elim
  · obtain ⟨ps, h1, _⟩ := s.e1.tabs q hq
    rw [e, hp] at h1
    cases h1
  · cases e : B.P p with
    | none => rfl
    | some o =>
      have := (s.pin p o e).1
      rw [hp] at this
      cases this
/-- a new object is laid -/
theorem SR.alloc (s : SR g B F r f S σ H) {p : Addr} (hp : H p = none) (u : HO) : SR g B F r f S σ (upd H p u) := by
  obtain ⟨n1, n2, n3, n4, n5, n6⟩ := s.free hp
  have ne : ∀ {b : Addr} {o : HO}, H b = some o → b ≠ p := fun e z => by rw [z, hp] at e; cases e
  have ke : ∀ {b : Addr} {o : HO}, H b = some o → upd H p u b = some o := fun e => by rw [upd_ne (ne e)]; exact e
  have obr : ∀ {o : SO} {a : Addr}, ObR g.K F r H o a → ObR g.K F r (upd H p u) o a := fun {o a} z => by
    cases o with
    | lst ds => obtain ⟨vs, z1, z2⟩ := z; exact ⟨vs, ke z1, z2⟩
    | dct ds => obtain ⟨vs, z1, z2⟩ := z; exact ⟨vs, ke z1, z2⟩
  have cor : ∀ {d : D} {a : Addr}, CoR g.K F r H d a → CoR g.K F r (upd H p u) d a := fun {d a} z => by
    cases d with
    | lst ds => obtain ⟨vs, z1, z2⟩ := z; exact ⟨vs, ke z1, z2⟩
    | dct ds => obtain ⟨vs, z1, z2⟩ := z; exact ⟨vs, ke z1, z2⟩
    | _ => exact z
  refine ⟨⟨fun a w e => ?_, s.e1.fro, s.e1.len, fun i o a h1 h2 => obr (s.e1.sto i o a h1 h2), s.e1.rnd, s.e1.rF, fun q hq => ?_, s.e1.tF, s.e1.tr⟩, s.len, fun k sl e => ?_, s.ow, s.od, ⟨s.bs.le, fun a h => ?_, fun a o h1 h2 h3 => ?_, s.bs.nF, s.bs.nr⟩, fun a o h => ?_, fun a o h => ?_⟩
  · rcases s.e1.hold a w e with z | ⟨kvs, o, z1, z2⟩
    · exact .inl (ke z)
    · exact .inr ⟨kvs, o, z1, ke z2⟩
  · exact LamX.TabS.ext (s.e1.tabs q hq) fun b o e => ke e
  · have z := s.slot k sl e
    cases sl with
    | un => trivial
    | val d => exact z
    | own d => obtain ⟨b, z1, z2⟩ := z; exact ⟨b, z1, cor z2⟩
    | ex fs => obtain ⟨a', dd, vs, z1, z2, z3, z4⟩ := z; exact ⟨a', dd, vs, z1, z2, ke z3, z4⟩
    | lam => obtain ⟨a, c, q, z1, z2, z3⟩ := z; exact ⟨a, c, q, z1, z2, ke z3⟩
  · obtain ⟨o, e, t⟩ := s.bs.there a h
    exact ⟨o, ke e, t⟩
  · rcases s.bs.keep a o h1 h2 h3 with z | ⟨z1, ob, z2⟩
    · exact .inl (ke z)
    · exact .inr ⟨z1, ob, ke z2⟩
  · obtain ⟨h1, h2⟩ := s.pin a o h
    exact ⟨ke h1, h2⟩
  · obtain ⟨h1, h2⟩ := s.lck a o h
    exact ⟨ke h1, h2⟩
/-- a new list -/
theorem SR.newL (s : SR g B F r f S σ H) {p : Addr} (hp : H p = none) {ds : List D} {vs : List V} (q : RepL g.K F r ds vs) :
    SR g B F r f S σ (upd H p (.lst vs)) ∧ New g B F r f σ (upd H p (.lst vs)) (.lst ds) p := by
  obtain ⟨n1, n2, n3, n4, n5, n6⟩ := s.free hp
  exact ⟨s.alloc hp _, ⟨⟨vs, upd_same, q⟩, n1, n2, n3, n4, n6⟩⟩
theorem SR.newK (s : SR g B F r f S σ H) {p : Addr} (hp : H p = none) {ds : List (Ky × D)} {vs : List (Key × V)} (q : RepK g.K F r ds vs) :
    SR g B F r f S σ (upd H p (.dK vs)) ∧ New g B F r f σ (upd H p (.dK vs)) (.dct ds) p := by
  obtain ⟨n1, n2, n3, n4, n5, n6⟩ := s.free hp
  exact ⟨s.alloc hp _, ⟨⟨vs, upd_same, q⟩, n1, n2, n3, n4, n6⟩⟩
/-- a new tuple -/
theorem SR.newT (s : SR g B F r f S σ H) {p : Addr} (hp : H p = none) {ds : List D} {vs : List V} (q : RepL g.K F r ds vs) :
    ∃ F', Le F r F' r ∧ SR g B F' r f S σ (upd H p (.tup vs)) ∧ RepV g.K F' r (.tup ds) (.ref p) := by
  obtain ⟨n1, n2, n3, n4, n5, n6⟩ := s.free hp
  obtain ⟨l, z⟩ := (s.alloc hp (.tup vs)).fix upd_same trivial n1 n2 n3 n4 n6
  exact ⟨_, l, z, .tup (.inl (.inl upd_same)) (q.le l)⟩
end
end Mi
set_option Elab.async false
set_option linter.all false
set_option maxRecDepth 100000
/-! Mi, part 4: values as they are read; operands; operations. -/
namespace Mi
open PySem PySem.Spec L2
section
variable {g : G} {W : WX} {B : Bs} {F F' H H' : Hp} {r r' : List Addr} {σ : L2.St} {f : Fr} {S : Store}
theorem E1.sto' (e : E1 g F r S H) {i : Nat} {o : SO} {a : Addr} (h : r[i]? = some a) (h2 : S[i]? = some o) : ObR g.K F r H o a := e.sto i o a h2 h
theorem E1.lst (e : E1 g F r S H) {a : Addr} {vs : List V} (h : F a = some (.lst vs)) : H a = some (.lst vs) := by
  rcases e.hold a _ h with z | ⟨_, _, z, _⟩
  · exact z
  · cases z
theorem E1.tupl (e : E1 g F r S H) {a : Addr} {vs : List V} (h : SqT g.K F a vs) : SqT g.K H a vs := by
  rcases h with h | h
  · rcases h with h | ⟨o, h⟩
    · rcases e.hold a _ h with z | ⟨_, _, z, _⟩
      · exact .inl (.inl z)
      · cases z
    · exact (e.fro a _ h).elim
  · exact .inr h
theorem E1.scr (e : E1 g F r S H) {a : Addr} {vs : List V} (h : SqL g.K F a vs) : SqL g.K H a vs := by
  rcases h with h | h
  · rcases h with h | ⟨o, h⟩
    · rcases e.hold a _ h with z | ⟨_, _, z, _⟩
      · exact .inl (.inl z)
      · cases z
    · rcases e.hold a _ h with z | ⟨_, _, z, _⟩
      · exact .inl (.inr ⟨o, z⟩)
      · cases z
  · exact .inr h
theorem RepL.ints {K : PySem.W.Frag} : ∀ ns : List Int, RepL K F r (ns.map D.int) (ns.map V.int)
  | [] => .nil
  | n :: ns => .cons (.int n) (RepL.ints ns)
/-! ### scalars -/
theorem BV.non {v : V} (h : BV g F r H .non v) : v = .non := by
  rcases h with h | ⟨a, _, h⟩
  · cases h; rfl
  · exact h.elim
theorem BV.bl {b : Bool} {v : V} (h : BV g F r H (.bl b) v) : v = .bl b := by
  rcases h with h | ⟨a, _, h⟩
  · cases h; rfl
  · exact h.elim
theorem BV.int {b : Int} {v : V} (h : BV g F r H (.int b) v) : v = .int b := by
  rcases h with h | ⟨a, _, h⟩
  · cases h; rfl
  · exact h.elim
theorem BV.str {b : Tx} {v : V} (h : BV g F r H (.str b) v) : v = .str (toStr b) := by
  rcases h with h | ⟨a, _, h⟩
  · cases h; rfl
  · exact h.elim
/-! ### sequences, dicts -/
theorem BV.tup {ds : List D} {v : V} (e : E1 g F r S H) (h : BV g F r H (.tup ds) v) : ∃ a vs, v = .ref a ∧ SqT g.K H a vs ∧ RepL g.K F r ds vs := by
  rcases h with h | ⟨a, _, h⟩
  · cases h with
    | tup h q => exact ⟨_, _, rfl, e.tupl h, q⟩
  · exact h.elim
theorem BV.lst {ds : List D} {v : V} (e : E1 g F r S H) (h : BV g F r H (.lst ds) v) : ∃ a vs, v = .ref a ∧ H a = some (.lst vs) ∧ RepL g.K F r ds vs := by
  rcases h with h | ⟨a, e1, h⟩
  · cases h with
    | lst h q => exact ⟨_, _, rfl, e.lst h, q⟩
  · obtain ⟨vs, h1, h2⟩ := h
    exact ⟨a, vs, e1, h1, h2⟩
theorem BV.rf {i : Nat} {v : V} (e : E1 g F r S H) (h : BV g F r H (.ref i) v) {o : SO} (ho : S[i]? = some o) : ∃ a, v = .ref a ∧ ObR g.K F r H o a ∧ r[i]? = some a := by
  rcases h with h | ⟨a, _, h⟩
  · cases h with
    | ref h => exact ⟨_, rfl, e.sto' h ho, h⟩
  · exact h.elim
theorem BV.scr {ns : List Int} {v : V} (e : E1 g F r S H) (h : BV g F r H (.scr ns) v) : ∃ a, v = .ref a ∧ SqL g.K H a (ns.map V.int) := by
  rcases h with h | ⟨a, _, h⟩
  · cases h with
    | scr h => exact ⟨_, rfl, e.scr h⟩
  · exact h.elim
theorem BV.lstOf {d : D} {ds : List D} {v : V} (e : E1 g F r S H) (h : BV g F r H d v) (hd : lstOf S d = some ds) : ∃ a vs, v = .ref a ∧ H a = some (.lst vs) ∧ RepL g.K F r ds vs := by
  cases d with
  | lst es => cases hd; exact h.lst e
  | ref i =>
    unfold Mi.lstOf at hd
    dsimp only at hd
    cases ho : S[i]? with
    | none => rw [ho] at hd; cases hd
    | some o =>
      rw [ho] at hd
      cases o with
      | lst es =>
        cases hd
        obtain ⟨a, e1, ⟨vs, h1, h2⟩, _⟩ := h.rf e ho
        exact ⟨a, vs, e1, h1, h2⟩
      | dct es => cases hd
  | _ => cases hd
theorem BV.seqOf {d : D} {ds : List D} {v : V} (e : E1 g F r S H) (h : BV g F r H d v) (hd : seqOf S d = some ds) : ∃ a vs, v = .ref a ∧ (SqL g.K H a vs ∨ SqT g.K H a vs) ∧ RepL g.K F r ds vs := by
  cases d with
  | lst es =>
    cases hd
    obtain ⟨a, vs, e1, h1, h2⟩ := h.lst e
    exact ⟨a, vs, e1, .inl (SqL.of h1), h2⟩
  | tup es =>
    cases hd
    obtain ⟨a, vs, e1, h1, h2⟩ := h.tup e
    exact ⟨a, vs, e1, .inr h1, h2⟩
  | scr ns =>
    cases hd
    obtain ⟨a, e1, h1⟩ := h.scr e
    exact ⟨a, _, e1, .inl h1, RepL.ints ns⟩
  | ref i =>
    obtain ⟨a, vs, e1, h1, h2⟩ := h.lstOf (ds := ds) e (by
      unfold Mi.seqOf at hd
      unfold Mi.lstOf
      exact hd)
    exact ⟨a, vs, e1, .inl (SqL.of h1), h2⟩
  | _ => cases hd
theorem BV.lsqOf {d : D} {ds : List D} {v : V} (e : E1 g F r S H) (h : BV g F r H d v) (hd : lsqOf S d = some ds) : ∃ a vs, v = .ref a ∧ SqL g.K H a vs ∧ RepL g.K F r ds vs := by
  cases d with
  | scr ns =>
    cases hd
    obtain ⟨a, e1, h1⟩ := h.scr e
    exact ⟨a, _, e1, h1, RepL.ints ns⟩
  | lst es =>
    cases hd
    obtain ⟨a, vs, e1, h1, h2⟩ := h.lst e
    exact ⟨a, vs, e1, SqL.of h1, h2⟩
  | ref i =>
    obtain ⟨a, vs, e1, h1, h2⟩ := h.lstOf (ds := ds) e hd
    exact ⟨a, vs, e1, SqL.of h1, h2⟩
  | _ => cases hd
/-- a dict as it stands: open, or locked -/
def DkAt (H : Hp) (a : Addr) (kvs : List (Key × V)) : Prop := H a = some (.dK kvs) ∨ ∃ o, H a = some (.frz o (.dK kvs))
theorem BV.dctOf {d : D} {ds : List (Ky × D)} {v : V} (e : E1 g F r S H) (h : BV g F r H d v) (hd : dctOf S d = some ds) : ∃ a kvs, v = .ref a ∧ DkAt H a kvs ∧ RepK g.K F r ds kvs := by
  cases d with
  | dct es =>
    cases hd
    rcases h with h | ⟨a, e1, h⟩
    · cases h with
      | dct h q =>
        refine ⟨_, _, rfl, ?_, q⟩
        rcases e.hold _ _ h with z | ⟨_, o, z1, z2⟩
        · exact .inl z
        · cases z1; exact .inr ⟨o, z2⟩
    · obtain ⟨vs, h1, h2⟩ := h
      exact ⟨a, vs, e1, .inl h1, h2⟩
  | ref i =>
    unfold Mi.dctOf at hd
    dsimp only at hd
    cases ho : S[i]? with
    | none => rw [ho] at hd; cases hd
    | some o =>
      rw [ho] at hd
      cases o with
      | dct es =>
        cases hd
        obtain ⟨a, e1, ⟨vs, h1, h2⟩, _⟩ := h.rf e ho
        exact ⟨a, vs, e1, .inl h1, h2⟩
      | lst es => cases hd
  | _ => cases hd
end

/-! ### operands -/
def tOp1 (g : G) (W : WX) : Op → TE
  | .s k => tVar k
  | .e m => tE g W m
section
variable {g : G} {W : WX} {B : Bs} {F F' H H' : Hp} {r r' : List Addr} {σ : L2.St} {f : Fr} {S : Store}
theorem tM.of {α β : Type} {P : Bs → Hp → List Addr → Fr → L2.St → Hp → α → β → Prop} {m : M α} {Q : β → Hp → Prop} (s : SR g B F r f S σ H) (h : Run g W P B F r σ (m g.cx f S) Q) : tM g W P m σ H Q := ⟨B, F, r, f, S, s, h⟩
theorem Run.ok {α β : Type} {P : Bs → Hp → List Addr → Fr → L2.St → Hp → α → β → Prop} {a : α} {v : β} {Q : β → Hp → Prop} (h : Run g W P B F r σ (.ok a f S) Q) (s : SR g B F r f S σ H) (p : P B F r f σ H a v) : Q v H := h F r H v .refl s p
theorem opE_run {o : Op} {Q : V → Hp → Prop} (s : SR g B F r f S σ H) (h : Run g W (POp g) B F r σ (opE o g.cx f S) Q) : tOp1 g W o σ H Q := by
  cases o with
  | s k =>
    have h' : Run g W (POp g) B F r σ (match peek f k with
      | some _ => .ok (.inl k) f S
      | none => .bad) Q := h
    cases e : peek f k with
    | none => rw [e] at h'; exact h'.elim
    | some d =>
      rw [e] at h'
      obtain ⟨v, h1, h2⟩ := s.peek e
      exact ⟨v, h1, h'.ok s h1⟩
  | e m =>
    refine tM.mono (tM.of s (Run.bind (P := PD g) h)) fun v H1 ⟨d, F', r', f, S, l, s1, p, q⟩ => ?_
    exact Run.ok (P := POp g) (a := .inr d) q s1 p
theorem tOp1.mono {o : Op} {Q Q' : V → Hp → Prop} (h : tOp1 g W o σ H Q) (q : ∀ v H, Q v H → Q' v H) : tOp1 g W o σ H Q' := by
  cases o with
  | s k => obtain ⟨v, h1, h2⟩ := h; exact ⟨v, h1, q _ _ h2⟩
  | e m => exact tM.mono h q
/-- one operand, then the rest -/
theorem opE_then {α β : Type} {P : Bs → Hp → List Addr → Fr → L2.St → Hp → α → β → Prop} {o : Op} {k : Nat ⊕ D → M α} {Q : β → Hp → Prop} (s : SR g B F r f S σ H) (h : Run g W P B F r σ (mBind (opE o) k g.cx f S) Q) :
    tOp1 g W o σ H fun v H1 => ∃ x F' r' f S, Le F r F' r' ∧ SR g B F' r' f S σ H1 ∧ PO1 g F' r' σ x v ∧ Run g W P B F' r' σ (k x g.cx f S) Q := opE_run s (Run.bind (P := POp g) h)
end

/-! ### operations -/
/-- f gives a value; the rule rr of the library keeps it -/
def Prim1 {α β : Type} (g : G) (P : Bs → Hp → List Addr → Fr → L2.St → Hp → α → β → Prop) (h : Store → D → Option α) (rr : V → Hp → (β → Hp → Prop) → Prop) : Prop :=
  ∀ (B : Bs) (F : Hp) (r : List Addr) (f : Fr) (S : Store) (σ : L2.St) (H : Hp) (d : D) (x : V) (res : α) (Q : β → Hp → Prop), SR g B F r f S σ H → BV g F r H d x → h S d = some res →
    (∀ F' r' H' v, Le F r F' r' → SR g B F' r' f S σ H' → P B F' r' f σ H' res v → Q v H') → rr x H Q
def Prim2 {α β : Type} (g : G) (P : Bs → Hp → List Addr → Fr → L2.St → Hp → α → β → Prop) (h : Store → D → D → Option α) (rr : V → V → Hp → (β → Hp → Prop) → Prop) : Prop :=
  ∀ (B : Bs) (F : Hp) (r : List Addr) (f : Fr) (S : Store) (σ : L2.St) (H : Hp) (d e : D) (x y : V) (res : α) (Q : β → Hp → Prop), SR g B F r f S σ H → BV g F r H d x → BV g F r H e y → h S d e = some res →
    (∀ F' r' H' v, Le F r F' r' → SR g B F' r' f S σ H' → P B F' r' f σ H' res v → Q v H') → rr x y H Q
def PrimN {α β : Type} (g : G) (P : Bs → Hp → List Addr → Fr → L2.St → Hp → α → β → Prop) (h : Store → List D → Option α) (rr : List V → Hp → (β → Hp → Prop) → Prop) : Prop :=
  ∀ (B : Bs) (F : Hp) (r : List Addr) (f : Fr) (S : Store) (σ : L2.St) (H : Hp) (ds : List D) (xs : List V) (res : α) (Q : β → Hp → Prop), SR g B F r f S σ H → BVs g F r H ds xs → h S ds = some res →
    (∀ F' r' H' v, Le F r F' r' → SR g B F' r' f S σ H' → P B F' r' f σ H' res v → Q v H') → rr xs H Q
section
variable {α β : Type} {g : G} {W : WX} {P : Bs → Hp → List Addr → Fr → L2.St → Hp → α → β → Prop} {B : Bs} {F F' H H' : Hp} {r r' : List Addr} {σ : L2.St} {f : Fr} {S : Store}
theorem at1_run {h : Store → D → Option α} {rr : V → Hp → (β → Hp → Prop) → Prop} (p : Prim1 g P h rr) {x : Nat ⊕ D} {v : V} {Q : β → Hp → Prop} (s : SR g B F r f S σ H) (px : PO1 g F r σ x v)
    (q : Run g W P B F r σ (at1 h x g.cx f S) Q) : rr v H Q := by
  unfold at1 at q
  cases e : opR f x with
  | none => rw [e] at q; exact q.elim
  | some d =>
    rw [e] at q
    dsimp only at q
    cases e2 : h S d with
    | none => rw [e2] at q; exact q.elim
    | some res => rw [e2] at q; exact p B F r f S σ H d v res Q s (s.opR px e) e2 q
theorem at2_run {h : Store → D → D → Option α} {rr : V → V → Hp → (β → Hp → Prop) → Prop} (p : Prim2 g P h rr) {x y : Nat ⊕ D} {v w : V} {Q : β → Hp → Prop} (s : SR g B F r f S σ H) (px : PO1 g F r σ x v) (py : PO1 g F r σ y w)
    (q : Run g W P B F r σ (at2 h x y g.cx f S) Q) : rr v w H Q := by
  unfold at2 at q
  cases e : opR f x with
  | none => rw [e] at q; exact q.elim
  | some d =>
    cases e1 : opR f y with
    | none => rw [e, e1] at q; exact q.elim
    | some d2 =>
      rw [e, e1] at q
      dsimp only at q
      cases e2 : h S d d2 with
      | none => rw [e2] at q; exact q.elim
      | some res => rw [e2] at q; exact p B F r f S σ H d d2 v w res Q s (s.opR px e) (s.opR py e1) e2 q
theorem atN_run {h : Store → List D → Option α} {rr : List V → Hp → (β → Hp → Prop) → Prop} (p : PrimN g P h rr) {xs : List (Nat ⊕ D)} {vs : List V} {Q : β → Hp → Prop} (s : SR g B F r f S σ H) (px : PO2 g F r σ xs vs)
    (q : Run g W P B F r σ (atN h xs g.cx f S) Q) : rr vs H Q := by
  unfold atN at q
  cases e : opsR f xs with
  | none => rw [e] at q; exact q.elim
  | some d =>
    rw [e] at q
    dsimp only at q
    cases e2 : h S d with
    | none => rw [e2] at q; exact q.elim
    | some res => rw [e2] at q; exact p B F r f S σ H d vs res Q s (s.opsR px e) e2 q
theorem PO2.le {xs : List (Nat ⊕ D)} {vs : List V} (h : PO2 g F r σ xs vs) (l : Le F r F' r') : PO2 g F' r' σ xs vs := by
  induction h with
  | nil => exact .nil
  | cons h _ ih => exact .cons (h.le l) ih
/-- an operation of two operands -/
theorem mBin_run {h : Store → D → D → Option α} {rr : V → V → Hp → (β → Hp → Prop) → Prop} (p : Prim2 g P h rr) {a b : Op} {Q : β → Hp → Prop} (q : tM g W P (mBin h a b) σ H Q) :
    tOp1 g W a σ H fun x H1 => tOp1 g W b σ H1 fun y H2 => rr x y H2 Q := by
  obtain ⟨B, F, r, f, S, s, q⟩ := q
  refine tOp1.mono (opE_then s q) fun v H1 ⟨x, F1, r1, f1, S1, l1, s1, px, q1⟩ => ?_
  refine tOp1.mono (opE_then s1 q1) fun w H2 ⟨y, F2, r2, f2, S2, l2, s2, py, q2⟩ => ?_
  exact at2_run p s2 (px.le l2) py q2
theorem mUn_run {h : Store → D → Option α} {rr : V → Hp → (β → Hp → Prop) → Prop} (p : Prim1 g P h rr) {a : Op} {Q : β → Hp → Prop} (q : tM g W P (mUn h a) σ H Q) : tOp1 g W a σ H fun x H1 => rr x H1 Q := by
  obtain ⟨B, F, r, f, S, s, q⟩ := q
  refine tOp1.mono (opE_then s q) fun v H1 ⟨x, F1, r1, f1, S1, l1, s1, px, q1⟩ => ?_
  exact at1_run p s1 px q1
end
/-- arguments of a built-in function -/
def tOps (g : G) (W : WX) : List Op → TA
  | [] => tNil
  | o :: os => tCons (tOp1 g W o) (tOps g W os)
section
variable {α β : Type} {g : G} {W : WX} {P : Bs → Hp → List Addr → Fr → L2.St → Hp → α → β → Prop} {B : Bs} {F F' H H' : Hp} {r r' : List Addr} {σ : L2.St} {f : Fr} {S : Store}
theorem opsE_run : ∀ {os : List Op} {H : Hp} {F : Hp} {r : List Addr} {f : Fr} {S : Store} {Q : List V → Hp → Prop}, SR g B F r f S σ H → Run g W (POs g) B F r σ (opsE os g.cx f S) Q → tOps g W os σ H Q
  | [], H, F, r, f, S, Q, s, h => Run.ok (P := POs g) (a := []) h s .nil
  | o :: os, H, F, r, f, S, Q, s, h => by
    refine tOp1.mono (opE_then s h) fun v H1 ⟨x, F1, r1, f1, S1, l1, s1, px, q1⟩ => ?_
    have q2 := opsE_run s1 (Run.bind (P := POs g) q1)
    refine tOps_mono q2 fun vs H2 ⟨xs, F2, r2, f2, S2, l2, s2, ps, q3⟩ => ?_
    exact Run.ok (P := POs g) (a := x :: xs) q3 s2 (.cons (px.le l2) ps)
where
  tOps_mono : ∀ {os : List Op} {H : Hp} {Q Q' : List V → Hp → Prop}, tOps g W os σ H Q → (∀ v H, Q v H → Q' v H) → tOps g W os σ H Q'
  | [], H, Q, Q', h, q => q _ _ h
  | o :: os, H, Q, Q', h, q => tOp1.mono h fun v H1 z => tOps_mono z fun vs H2 y => q _ _ y
theorem tOps.mono {os : List Op} {H : Hp} {Q Q' : List V → Hp → Prop} (h : tOps g W os σ H Q) (q : ∀ v H, Q v H → Q' v H) : tOps g W os σ H Q' := opsE_run.tOps_mono h q
theorem mFn_run {h : Store → List D → Option α} {rr : List V → Hp → (β → Hp → Prop) → Prop} (p : PrimN g P h rr) {os : List Op} {Q : β → Hp → Prop} (q : tM g W P (mFn h os) σ H Q) : tOps g W os σ H fun xs H1 => rr xs H1 Q := by
  obtain ⟨B, F, r, f, S, s, q⟩ := q
  refine tOps.mono (opsE_run s (Run.bind (P := POs g) q)) fun v H1 ⟨x, F1, r1, f1, S1, l1, s1, px, q1⟩ => ?_
  exact atN_run p s1 px q1
/-- frozen values in a row -/
def tAlls (g : G) (W : WX) : List (M D) → TA
  | [] => tNil
  | m :: ms => tCons (tE g W m) (tAlls g W ms)
theorem tAlls_mono : ∀ {ms : List (M D)} {H : Hp} {Q Q' : List V → Hp → Prop}, tAlls g W ms σ H Q → (∀ v H, Q v H → Q' v H) → tAlls g W ms σ H Q'
  | [], H, Q, Q', h, q => q _ _ h
  | o :: os, H, Q, Q', h, q => tM.mono h fun v H1 z => tAlls_mono z fun vs H2 y => q _ _ y
theorem tAlls_len : ∀ {ms : List (M D)} {H : Hp} {R : List V → Hp → Prop}, tAlls g W ms σ H R → tAlls g W ms σ H fun vs H1 => vs.length = ms.length ∧ R vs H1
  | [], H, R, h => ⟨rfl, h⟩
  | m :: ms, H, R, h => tM.mono h fun v H1 z => tAlls_mono (tAlls_len z) fun vs H2 ⟨y1, y2⟩ => ⟨by rw [List.length_cons, List.length_cons, y1], y2⟩
theorem mAll_run : ∀ {ms : List (M D)} {H : Hp} {F : Hp} {r : List Addr} {f : Fr} {S : Store} {Q : List V → Hp → Prop}, SR g B F r f S σ H → Run g W (PLs g) B F r σ (mAll ms g.cx f S) Q → tAlls g W ms σ H Q
  | [], H, F, r, f, S, Q, s, h => Run.ok (P := PLs g) (a := []) h s .nil
  | m :: ms, H, F, r, f, S, Q, s, h => by
    refine tM.mono (tM.of s (Run.bind (P := PD g) h)) fun v H1 ⟨x, F1, r1, f1, S1, l1, s1, px, q1⟩ => ?_
    refine tAlls_mono (mAll_run s1 (Run.bind (P := PLs g) q1)) fun vs H2 ⟨xs, F2, r2, f2, S2, l2, s2, ps, q3⟩ => ?_
    exact Run.ok (P := PLs g) (a := x :: xs) q3 s2 (.cons (RepV.le l2 px) ps)
end

/-! ### freezing what is told -/
theorem mFz_run {g : G} {W : WX} {σ : L2.St} {H : Hp} {m : M DX} {Q : V → Hp → Prop} (q : tE g W (mFz m) σ H Q) : tX g W m σ H Q := by
  obtain ⟨B, F, r, f, S, s, q⟩ := q
  refine tM.mono (tM.of (P := PX g) s (Run.bind q)) fun v H1 ⟨d, F1, r1, f1, S1, l1, s1, p, q1⟩ => ?_
  have p' : RX g B F1 r1 f1 σ H1 d.1 d.2 v := p
  unfold RX at p'
  split at p'
  · obtain ⟨a, rfl, n⟩ := p'
    obtain ⟨F', l, s', rp⟩ := s1.freeze n
    exact q1 F' _ H1 _ l s' rp
  · exact Run.ok (P := PD g) (a := d.1) q1 s1 p'
theorem mVl_run {g : G} {W : WX} {σ : L2.St} {H : Hp} {m : M D} {Q : V → Hp → Prop} (q : tX g W (mVl m) σ H Q) : tE g W m σ H Q := by
  obtain ⟨B, F, r, f, S, s, q⟩ := q
  refine tM.mono (tM.of (P := PD g) s (Run.bind q)) fun v H1 ⟨d, F1, r1, f1, S1, l1, s1, p, q1⟩ => ?_
  refine Run.ok (P := PX g) (a := (d, false)) q1 s1 ?_
  show RX g B F1 r1 f1 σ H1 d false v
  unfold RX
  rw [if_neg (by decide)]
  exact p
theorem PE.fz {X : Cx} {e : Expr} {g : G} {W : WX} {m : M DX} (h : PE X e (tX g W m)) : PE X e (tE g W (mFz m)) := PE.imp h fun _ _ _ q => mFz_run q
theorem PE.vl {X : Cx} {e : Expr} {g : G} {W : WX} {m : M D} (h : PE X e (tE g W m)) : PE X e (tX g W (mVl m)) := PE.imp h fun _ _ _ q => mVl_run q
end Mi
set_option Elab.async false
set_option linter.all false
set_option maxRecDepth 100000
/-! Mi, part 6: the operations are the model's. -/
namespace Mi
open PySem PySem.Spec L2
section
variable {g : G} {W : WX} {B : Bs} {F F' H H' : Hp} {r r' : List Addr} {σ : L2.St} {f : Fr} {S : Store}
theorem px_val {d : D} {v : V} (h : RepV g.K F r d v) : PX g B F r f σ H (d, false) v := by
  show RX g B F r f σ H d false v
  unfold RX
  rw [if_neg (by decide)]
  exact h
theorem px_new {d : D} {a : Addr} (h : New g B F r f σ H d a) : PX g B F r f σ H (d, true) (.ref a) := by
  show RX g B F r f σ H d true (.ref a)
  unfold RX
  rw [if_pos rfl]
  exact ⟨a, rfl, h⟩
theorem lim_eq : sizeLine = LIM := sizeLine_eq
theorem toStr_app (x y : Tx) : toStr (x ++ y) = toStr x ++ toStr y := by
  show (⟨(x ++ y).toArray⟩ : Str) = ⟨x.toArray ++ y.toArray⟩
  simp
theorem natAbs_lt {i : Int} {n : Nat} (h : i.natAbs < 2 ^ n) : -(2 ^ n : Int) < i ∧ i < 2 ^ n := by
  have e : ((2 ^ n : Nat) : Int) = (2 : Int) ^ n := by simp
  omega
/-! ### numbers, + -/
def rAdd (K : PySem.W.Frag) : R2 := fun x y H Q => rI0 (fun i j => .int (i + j)) x y H Q ∨ ((∃ i j, x = .str i ∧ y = .str j ∧ i.length + j.length ≤ sizeLine ∧ Q (.str (i ++ j)) H) ∨ (rCatT K x y H Q ∨ rCat x y H Q))
theorem or_add {X : Cx} : OpR X (binaryOp .Add) (rAdd X.K) := op_add.or (op_add_str.or (op_catT.or op_cat))
theorem prim_add : Prim2 g (PX g) pAdd (rAdd g.K) := by
  intro B F r f S σ H d e x y res Q s bx bY h q
  unfold pAdd at h
  split at h
  · cases h
    exact .inl ⟨_, _, bx.int, bY.int, q F r H _ .refl s (px_val (.int _))⟩
  · split at h
    · rename_i hl
      cases h
      refine .inr (.inl ⟨_, _, bx.str, bY.str, by rw [lim_eq, toStr_len, toStr_len]; exact hl, ?_⟩)
      rw [← toStr_app]
      exact q F r H _ .refl s (px_val (.str _))
    · cases h
  · rename_i xs ys
    split at h
    · cases h
    · rename_i hne
      split at h
      · rename_i hl
        cases h
        obtain ⟨a, vs, e1, h1, h2⟩ := bx.tup s.e1
        obtain ⟨b, us, e2, h3, h4⟩ := bY.tup s.e1
        refine .inr (.inr (.inl ⟨a, b, vs, us, e1, e2, h1, h3, fun z => hne ?_, by rw [lim_eq, ← h2.length, ← h4.length]; exact hl, fun z => ?_, fun z p hp => ?_⟩))
        · have := h2.length
          rw [z] at this
          simpa using this
        · subst z
          cases h4
          have q' := q F r H x .refl s
          rw [List.append_nil] at q'
          rw [← e1]
          exact q' (px_val (by
            rcases bx with bx | ⟨_, _, bx⟩
            · exact bx
            · exact bx.elim))
        · obtain ⟨F', l, s', rp⟩ := s.newT hp (h2.append h4)
          exact q F' r _ _ l s' (px_val rp)
      · cases h
  · split at h
    · rename_i xs ys h1 h2
      split at h
      · rename_i hl
        cases h
        obtain ⟨a, vs, e1, k1, k2⟩ := bx.lstOf s.e1 h1
        obtain ⟨b, us, e2, k3, k4⟩ := bY.lstOf s.e1 h2
        refine .inr (.inr (.inr ⟨a, b, vs, us, e1, e2, k1, k3, by rw [lim_eq, ← k2.length, ← k4.length]; exact hl, fun p hp => ?_⟩))
        obtain ⟨s', n⟩ := s.newL hp (k2.append k4)
        exact q F r _ _ .refl s' (px_new n)
      · cases h
    · cases h
theorem prim_sub : Prim2 g (PX g) pSub (rI0 fun i j => .int (i - j)) := by
  intro B F r f S σ H d e x y res Q s bx bY h q
  unfold pSub at h
  split at h
  · cases h
    exact ⟨_, _, bx.int, bY.int, q F r H _ .refl s (px_val (.int _))⟩
  · cases h
def rMul : R2 := fun x y H Q => rI CMul (fun i j => .int (i * j)) x y H Q ∨ (rI CMulW (fun i j => .int (i * j)) x y H Q ∨ rRep x y H Q)
theorem or_mul {X : Cx} : OpR X (binaryOp .Mult) rMul := op_mul.or (op_mulW.or op_rep)
theorem prim_mul : Prim2 g (PX g) pMul rMul := by
  intro B F r f S σ H d e x y res Q s bx bY h q
  unfold pMul at h
  split at h
  · split at h
    · rename_i i j hk
      cases h
      have q' := q F r H _ .refl s (px_val (.int (i * j)))
      unfold okMul at hk
      rcases (by simpa only [Bool.or_eq_true, decide_eq_true_eq] using hk : i.natAbs < 2 ^ 64 ∨ (j.natAbs < 2 ^ 64 ∨ i.natAbs.log2 + j.natAbs.log2 < 1000000)) with z | z | z
      · exact .inl ⟨_, _, bx.int, bY.int, .inl (natAbs_lt z), q'⟩
      · exact .inl ⟨_, _, bx.int, bY.int, .inr (natAbs_lt z), q'⟩
      · exact .inr (.inl ⟨_, _, bx.int, bY.int, z, q'⟩)
    · cases h
  · split at h
    · rename_i xs hx
      split at h
      · rename_i hk
        cases h
        simp only [Bool.and_eq_true, decide_eq_true_eq] at hk
        obtain ⟨a, vs, e1, k1, k2⟩ := bx.lstOf s.e1 hx
        refine .inr (.inr ⟨a, _, vs, e1, bY.int, k1, hk.1.1, hk.1.2, by rw [lim_eq, ← k2.length]; exact hk.2, fun p hp => ?_⟩)
        obtain ⟨s', n⟩ := s.newL hp (k2.rep _)
        exact q F r _ _ .refl s' (px_new n)
      · cases h
    · cases h
  · cases h
def rDiv : R2 := fun x y H Q => rI CDiv (fun i j => .int (i / j)) x y H Q ∨ rI CDivW (fun i j => .int (i / j)) x y H Q
theorem or_div {X : Cx} : OpR X (binaryOp .FloorDiv) rDiv := op_fdiv.or op_fdivW
theorem prim_div : Prim2 g (PX g) pDiv rDiv := by
  intro B F r f S σ H d e x y res Q s bx bY h q
  unfold pDiv at h
  split at h
  · split at h
    · rename_i i j hk
      cases h
      have q' := q F r H _ .refl s (px_val (.int (i / j)))
      unfold okDiv at hk
      simp only [Bool.and_eq_true, Bool.or_eq_true, decide_eq_true_eq] at hk
      rcases hk.2 with z | z
      · exact .inl ⟨_, _, bx.int, bY.int, ⟨hk.1, z⟩, q'⟩
      · exact .inr ⟨_, _, bx.int, bY.int, ⟨hk.1, z⟩, q'⟩
    · cases h
  · cases h
theorem prim_mod : Prim2 g (PX g) pMod (rI (fun _ j => 0 < j) fun i j => .int (i % j)) := by
  intro B F r f S σ H d e x y res Q s bx bY h q
  unfold pMod at h
  split at h
  · split at h
    · rename_i i j hk
      cases h
      exact ⟨_, _, bx.int, bY.int, hk, q F r H _ .refl s (px_val (.int _))⟩
    · cases h
  · cases h
theorem prim_pow : Prim2 g (PX g) pPow (rI CPow fun i j => .int (i ^ j.toNat)) := by
  intro B F r f S σ H d e x y res Q s bx bY h q
  unfold pPow at h
  split at h
  · split at h
    · rename_i i j hk
      cases h
      simp only [Bool.and_eq_true, decide_eq_true_eq] at hk
      exact ⟨_, _, bx.int, bY.int, ⟨hk.1.1, hk.1.2, hk.2⟩, q F r H _ .refl s (px_val (.int _))⟩
    · cases h
  · cases h
theorem prim_neg : Prim1 g (PX g) pNeg (rU fun i => .int (-i)) := by
  intro B F r f S σ H d x res Q s bx h q
  unfold pNeg at h
  split at h
  · cases h
    exact ⟨_, bx.int, q F r H _ .refl s (px_val (.int _))⟩
  · cases h
/-- a binary operator -/
def BinOk (g : G) (X : Cx) (op : Operator) (h : Store → D → D → Option DX) : Prop := ∃ rr : R2, OpR X (binaryOp op) rr ∧ Prim2 g (PX g) h rr
theorem binOp_ok {X : Cx} (hK : X.K = g.K) {op : Operator} {h : Store → D → D → Option DX} (e : binOp op = some h) : BinOk g X op h := by
  cases op <;> unfold binOp at e <;> cases e
  · exact ⟨rAdd X.K, or_add, by rw [hK]; exact prim_add⟩
  · exact ⟨_, op_sub, prim_sub⟩
  · exact ⟨_, or_mul, prim_mul⟩
  · exact ⟨_, op_mod, prim_mod⟩
  · exact ⟨_, op_pow, prim_pow⟩
  · exact ⟨_, or_div, prim_div⟩
theorem snd_bin {X : Cx} {op : Operator} {h : Store → D → D → Option DX} {a b : Expr} {oa ob : Op} {pos : Pos} (k : BinOk g X op h) (ha : PE X a (tOp1 g W oa)) (hb : PE X b (tOp1 g W ob)) : PE X (.BinOp a op b pos) (tX g W (mBin h oa ob)) := by
  obtain ⟨rr, h1, h2⟩ := k
  exact PE.imp (pe_op h1 ha hb) fun σ H Q q => mBin_run h2 q
theorem snd_neg {X : Cx} {a : Expr} {oa : Op} {pos : Pos} (ha : PE X a (tOp1 g W oa)) : PE X (.UnaryOp .USub a pos) (tX g W (mUn pNeg oa)) := PE.imp (pe_un un_neg ha) fun σ H Q q => mUn_run prim_neg q
end
end Mi
set_option Elab.async false
set_option linter.all false
set_option maxRecDepth 100000
/-! Mi, part 7: comparisons, tests. -/
namespace Mi
open PySem PySem.Spec L2
/-- a comparison's answer -/
def PrimC (g : G) (h : Store → D → D → Option Bool) (rr : R2) : Prop :=
  ∀ (B : Bs) (F : Hp) (r : List Addr) (f : Fr) (S : Store) (σ : L2.St) (H : Hp) (d e : D) (x y : V) (k : Bool) (Q : VK), SR g B F r f S σ H → BV g F r H d x → BV g F r H e y → h S d e = some k → Q (.bl k) H → rr x y H Q
def CmpOk (g : G) (X : Cx) (op : CmpOp) (h : Store → D → D → Option Bool) : Prop := ∃ rr : R2, OpR X (compareOp op) rr ∧ PrimC g h rr
section
variable {g : G} {W : WX} {B : Bs} {F F' H H' : Hp} {r r' : List Addr} {σ : L2.St} {f : Fr} {S : Store}
/-! ### == -/
mutual
theorem RepV.dp (e : E1 g F r S H) : ∀ {d : D} {v : V} {p : PyData}, RepV g.K F r d v → toP d = some p → Dp g.K H v p
  | .non, _, _, .non, h => by cases h; exact .non
  | .bl b, _, _, .bl _, h => by cases h; exact .bl b
  | .int i, _, _, .int _, h => by cases h; exact .int i
  | .str x, _, _, .str _, h => by cases h; exact .str _
  | .tup ds, _, p, .tup h1 h2, h => by
    unfold toP at h
    cases q : toPs ds with
    | none => rw [q] at h; cases h
    | some ps =>
      rw [q] at h
      cases h
      exact .tup (e.tupl h1) (RepL.dp e h2 q)
  | .lst ds, _, p, .lst h1 h2, h => by
    unfold toP at h
    cases q : toPs ds with
    | none => rw [q] at h; cases h
    | some ps =>
      rw [q] at h
      cases h
      exact .lst (SqL.of (e.lst h1)) (RepL.dp e h2 q)
theorem RepL.dp (e : E1 g F r S H) : ∀ {ds : List D} {vs : List V} {ps : List PyData}, RepL g.K F r ds vs → toPs ds = some ps → DpAll g.K H vs ps
  | [], _, _, .nil, h => by cases h; exact .nil
  | d :: ds, _, ps, .cons h1 h2, h => by
    unfold toPs at h
    split at h
    · rename_i p qs e1 e2
      cases h
      exact .cons (RepV.dp e h1 e1) (RepL.dp e h2 e2)
    · cases h
end
theorem BV.dp (s : SR g B F r f S σ H) {d : D} {v : V} {p : PyData} (h : BV g F r H d v) (hp : toPS S d = some p) : Dp g.K H v p := by
  have seq : ∀ {ds : List D}, Mi.lstOf S d = some ds → ∀ {ps : List PyData}, toPs ds = some ps → Dp g.K H v (.list ps) := fun {ds} hl {ps} hq => by
    obtain ⟨a, vs, rfl, h1, h2⟩ := h.lstOf s.e1 hl
    exact .lst (SqL.of h1) (RepL.dp s.e1 h2 hq)
  cases d with
  | lst ds =>
    have hp' : (toPs ds).map PyData.list = some p := hp
    cases q : toPs ds with
    | none => rw [q] at hp'; cases hp'
    | some ps => rw [q] at hp'; cases hp'; exact seq rfl q
  | ref i =>
    unfold toPS at hp
    dsimp only at hp
    cases hl : Mi.lstOf S (.ref i) with
    | none => rw [hl] at hp; cases hp
    | some ds =>
      rw [hl] at hp
      dsimp only at hp
      cases q : toPs ds with
      | none => rw [q] at hp; cases hp
      | some ps => rw [q] at hp; cases hp; exact seq hl q
  | dct kvs => exact absurd (show (none : Option PyData) = some p from hp) (by simp)
  | scr ns => exact absurd (show (none : Option PyData) = some p from hp) (by simp)
  | _ =>
    rcases h with h | ⟨_, _, h⟩
    · exact h.dp s.e1 hp
    · exact h.elim
theorem scalEq_rr {d e : D} {x y : V} {k : Bool} {Q : VK} (bx : BV g F r H d x) (bY : BV g F r H e y) (h : scalEq d e = some k) : scal x y = true ∧ decide (x = y) = k := by
  unfold scalEq at h
  split at h <;> first | cases h | skip
  · rw [bx.int, bY.int]
    exact ⟨rfl, by rw [decide_eq_decide]; exact ⟨fun z => by cases z; rfl, fun z => by rw [z]⟩⟩
  · rw [bx.str, bY.str]
    exact ⟨rfl, by rw [decide_eq_decide]; exact ⟨fun z => toStr_inj (V.str.inj z), fun z => by rw [z]⟩⟩
  · rw [bx.bl, bY.bl]
    exact ⟨rfl, by rw [decide_eq_decide]; exact ⟨fun z => by cases z; rfl, fun z => by rw [z]⟩⟩
  · rw [bx.non, bY.non]; exact ⟨rfl, rfl⟩
  · rw [bx.non, bY.int]; exact ⟨rfl, rfl⟩
  · rw [bx.int, bY.non]; exact ⟨rfl, rfl⟩
  · rw [bx.non, bY.bl]; exact ⟨rfl, rfl⟩
  · rw [bx.bl, bY.non]; exact ⟨rfl, rfl⟩
  · rw [bx.non, bY.str]; exact ⟨rfl, rfl⟩
  · rw [bx.str, bY.non]; exact ⟨rfl, rfl⟩
  · rw [bx.int, bY.str]; exact ⟨rfl, rfl⟩
  · rw [bx.str, bY.int]; exact ⟨rfl, rfl⟩
  · rw [bx.bl, bY.str]; exact ⟨rfl, rfl⟩
  · rw [bx.str, bY.bl]; exact ⟨rfl, rfl⟩
def rEqA (K : PySem.W.Frag) : R2 := fun x y H Q => rEq x y H Q ∨ rEqD K x y H Q
def rNeA (K : PySem.W.Frag) : R2 := fun x y H Q => rNe x y H Q ∨ rNeD K x y H Q
theorem prim_eq : PrimC g pEq (rEqA g.K) := by
  intro B F r f S σ H d e x y k Q s bx bY h q
  unfold pEq at h
  split at h
  · rename_i k' hk
    cases h
    obtain ⟨h1, h2⟩ := scalEq_rr (Q := Q) bx bY hk
    exact .inl ⟨h1, by rw [h2]; exact q⟩
  · split at h
    · rename_i p p' h1 h2
      split at h
      · rename_i hs
        cases h
        simp only [Bool.and_eq_true] at hs
        exact .inr ⟨p, p', bx.dp s h1, bY.dp s h2, hs.1, hs.2, q⟩
      · cases h
    · cases h
theorem prim_ne : PrimC g pNe (rNeA g.K) := by
  intro B F r f S σ H d e x y k Q s bx bY h q
  unfold pNe at h
  cases hp : pEq S d e with
  | none => rw [hp] at h; cases h
  | some k0 =>
    rw [hp] at h
    cases h
    have h := hp
    unfold pEq at h
    split at h
    · rename_i k' hk
      cases h
      obtain ⟨h1, h2⟩ := scalEq_rr (Q := Q) bx bY hk
      exact .inl ⟨h1, by rw [h2]; exact q⟩
    · split at h
      · rename_i p p' h1 h2
        split at h
        · rename_i hs
          cases h
          simp only [Bool.and_eq_true] at hs
          exact .inr ⟨p, p', bx.dp s h1, bY.dp s h2, hs.1, hs.2, q⟩
        · cases h
      · cases h
/-! ### order -/
theorem tl_str (x : Tx) : (toStr x).cps.toList = x := rfl
def rLtA : R2 := fun x y H Q => rI0 (fun i j => .bl (decide (i < j))) x y H Q ∨ (∃ i j, x = .str i ∧ y = .str j ∧ Q (.bl (decide (i.cps.toList < j.cps.toList))) H)
def rLeA : R2 := fun x y H Q => rI0 (fun i j => .bl (decide (i ≤ j))) x y H Q ∨ (∃ i j, x = .str i ∧ y = .str j ∧ Q (.bl (!decide (j.cps.toList < i.cps.toList))) H)
def rGtA : R2 := fun x y H Q => rI0 (fun i j => .bl (decide (j < i))) x y H Q ∨ (∃ i j, x = .str i ∧ y = .str j ∧ Q (.bl (decide (j.cps.toList < i.cps.toList))) H)
def rGeA : R2 := fun x y H Q => rI0 (fun i j => .bl (decide (j ≤ i))) x y H Q ∨ (∃ i j, x = .str i ∧ y = .str j ∧ Q (.bl (!decide (i.cps.toList < j.cps.toList))) H)
theorem prim_lt : PrimC g pLt rLtA := by
  intro B F r f S σ H d e x y k Q s bx bY h q
  unfold pLt at h
  split at h
  · cases h; exact .inl ⟨_, _, bx.int, bY.int, q⟩
  · cases h; exact .inr ⟨_, _, bx.str, bY.str, q⟩
  · cases h
theorem prim_le : PrimC g pLe rLeA := by
  intro B F r f S σ H d e x y k Q s bx bY h q
  unfold pLe at h
  split at h
  · cases h; exact .inl ⟨_, _, bx.int, bY.int, q⟩
  · cases h; exact .inr ⟨_, _, bx.str, bY.str, q⟩
  · cases h
theorem prim_gt : PrimC g pGt rGtA := by
  intro B F r f S σ H d e x y k Q s bx bY h q
  unfold pGt at h
  split at h
  · cases h; exact .inl ⟨_, _, bx.int, bY.int, q⟩
  · cases h; exact .inr ⟨_, _, bx.str, bY.str, q⟩
  · cases h
theorem prim_ge : PrimC g pGe rGeA := by
  intro B F r f S σ H d e x y k Q s bx bY h q
  unfold pGe at h
  split at h
  · cases h; exact .inl ⟨_, _, bx.int, bY.int, q⟩
  · cases h; exact .inr ⟨_, _, bx.str, bY.str, q⟩
  · cases h
/-! ### in -/
theorem flat_V {d : D} {v : V} (h : RepV g.K F r d v) (hf : flat d = true) : flatV v = true := by
  cases h <;> first | rfl | (cases hf)
theorem flats_V : ∀ {ds : List D} {vs : List V}, RepL g.K F r ds vs → ds.all flat = true → vs.all flatV = true
  | _, _, .nil, _ => rfl
  | _, _, .cons h q, hf => by
    simp only [List.all_cons, Bool.and_eq_true] at hf ⊢
    exact ⟨flat_V h hf.1, flats_V q hf.2⟩
theorem flatEq_V {d e : D} {v w : V} (h : RepV g.K F r d v) (h2 : RepV g.K F r e w) (hf : flat d = true) (hf2 : flat e = true) : eqV v w = flatEq d e := by
  cases h <;> first | (cases hf; done) | skip
  all_goals (cases h2 <;> first | (cases hf2; done) | skip)
  all_goals first
    | rfl
    | (show (toStr _ == toStr _) = decide _
       rw [Bool.eq_iff_iff, beq_iff_eq, decide_eq_true_eq]
       exact ⟨toStr_inj, fun z => by rw [z]⟩)
theorem flatAny_V {e : D} {w : V} (h2 : RepV g.K F r e w) (hf2 : flat e = true) : ∀ {ds : List D} {vs : List V}, RepL g.K F r ds vs → ds.all flat = true → inV w vs = ds.any fun d => flatEq d e
  | _, _, .nil, _ => rfl
  | _, _, .cons h q, hf => by
    simp only [List.all_cons, Bool.and_eq_true] at hf
    unfold inV
    rw [List.any_cons, List.any_cons, flatEq_V h h2 hf.1 hf2]
    exact congrArg _ (flatAny_V h2 hf2 q hf.2)
theorem kyK_dec (k l : Ky) : decide (kyK k = kyK l) = decide (k = l) := by
  rw [decide_eq_decide]
  exact ⟨kyK_inj, fun z => by rw [z]⟩
theorem RepK.val {kvs : List (Ky × D)} {vs : List (Key × V)} (h : RepK g.K F r kvs vs) (k : Ky) : (∃ d v, valK kvs k = some d ∧ valV vs (kyK k) = some v ∧ RepV g.K F r d v) ∨ (valK kvs k = none ∧ valV vs (kyK k) = none) := by
  cases h with
  | nil => exact .inr ⟨rfl, rfl⟩
  | @cons k' d v ds vs h q =>
    by_cases e : k' = k
    · subst e
      refine .inl ⟨d, v, ?_, valV_pos rfl, h⟩
      unfold valK
      simp
    · have e2 : ¬ kyK k' = kyK k := fun z => e (kyK_inj z)
      rw [show valV ((kyK k', v) :: vs) (kyK k) = valV vs (kyK k) from valV_neg e2]
      rw [show valK ((k', d) :: ds) k = valK ds k by unfold valK; simp [e]]
      exact RepK.val q k
theorem asKy_V {d : D} {v : V} {k : Ky} (h : BV g F r H d v) (e : asKy d = some k) : v = kV (kyK k) := by
  cases d with
  | int i => cases e; exact h.int
  | str x => cases e; exact h.str
  | _ => cases e
theorem DkAt.get {a : Addr} {kvs : List (Key × V)} (h : DkAt H a kvs) (k : Key) : DGet H a (kV k) (valV kvs k) := by
  rcases h with h | ⟨o, h⟩
  · exact .inl ⟨kvs, k, .inl h, rfl, rfl⟩
  · exact .inl ⟨kvs, k, .inr ⟨o, h⟩, rfl, rfl⟩
/-- in a dict, by values -/
def rInK (neg : Bool) : R2 := fun y x H Q => ∃ a o, x = .ref a ∧ DGet H a y o ∧ Q (.bl (if neg then !o.isSome else o.isSome)) H
theorem op_inK {X : Cx} (hu : X.A.units + 1 < cLine) : OpR X (compareOp .In) (rInK false) := by
  intro pins s σ H y x u v Q I ry rx h
  obtain ⟨a, o, rfl, dg, q⟩ := h
  obtain rfl : v = Value.ref a := rx
  exact d_in hu I dg ry fun s' I' => ⟨.bl o.isSome, H, I', rfl, q⟩
theorem op_notInK {X : Cx} (hu : X.A.units + 1 < cLine) : OpR X (compareOp .NotIn) (rInK true) := by
  intro pins s σ H y x u v Q I ry rx h
  obtain ⟨a, o, rfl, dg, q⟩ := h
  obtain rfl : v = Value.ref a := rx
  exact d_notIn hu I dg ry fun s' I' => ⟨.bl !o.isSome, H, I', rfl, q⟩
def rSign (neg : Bool) : R2 := fun x y H Q => ∃ (c : Nat) (z : Str), x = .str ⟨#[c]⟩ ∧ y = .str z ∧ Q (.bl (if neg then !decide (c ∈ z.cps.toList) else decide (c ∈ z.cps.toList))) H
def rInDb (K : PySem.W.Frag) (neg : Bool) : R2 := fun x y H Q => ∃ d ds, Dp K H x d ∧ Dp K H y (.list ds) ∧ SeqAt.shaped d = true ∧ SeqAt.shaped (.list ds) = true ∧ Q (.bl (if neg then !ds.any fun z => PyData.eqv z d else ds.any fun z => PyData.eqv z d)) H
def rInA (K : PySem.W.Frag) (neg : Bool) : R2 := fun x y H Q => rSign neg x y H Q ∨ (rInK neg x y H Q ∨ (rIn K neg x y H Q ∨ rInDb K neg x y H Q))
theorem or_in {X : Cx} (hu : X.A.units + 65 < cLine) : OpR X (compareOp .In) (rInA X.K false) := OpR.or op_in_sign (OpR.or (op_inK (by omega)) (OpR.or op_in_seq (op_inD hu)))
theorem or_notIn {X : Cx} (hu : X.A.units + 65 < cLine) : OpR X (compareOp .NotIn) (rInA X.K true) := OpR.or op_notIn_sign (OpR.or (op_notInK (by omega)) (OpR.or op_notIn_seq (op_notInD hu)))
theorem in_gen (neg : Bool) {d e : D} {x y : V} {k : Bool} {Q : VK} (s : SR g B F r f S σ H) (bx : BV g F r H d x) (bY : BV g F r H e y) (h : pIn S d e = some k) (q : Q (.bl (if neg then !k else k)) H) : rInA g.K neg x y H Q := by
  unfold pIn at h
  split at h
  · cases h
    exact .inl ⟨_, _, bx.str, bY.str, q⟩
  · cases h
  · split at h
    · rename_i kvs hk
      split at h
      · rename_i k' hk'
        cases h
        obtain ⟨a, vs, e1, h1, h2⟩ := bY.dctOf s.e1 hk
        have ex := asKy_V bx hk'
        refine .inr (.inl ⟨a, _, e1, by rw [ex]; exact h1.get _, ?_⟩)
        have eo : (valV vs (kyK k')).isSome = (valK kvs k').isSome := by
          rcases h2.val k' with ⟨d', v', z1, z2, _⟩ | ⟨z1, z2⟩ <;> rw [z1, z2] <;> rfl
        rw [eo]
        exact q
      · cases h
    · split at h
      · rename_i ds hs
        obtain ⟨a, vs, e1, h1, h2⟩ := bY.seqOf s.e1 hs
        split at h
        · rename_i hf
          cases h
          simp only [Bool.and_eq_true] at hf
          have rx : RepV g.K F r d x := by
            rcases bx with bx | ⟨_, _, bx⟩
            · exact bx
            · cases d <;> first | (exact bx.elim) | (exact Bool.noConfusion hf.1)
          refine .inr (.inr (.inl ⟨a, vs, e1, h1, flat_V rx hf.1, flats_V h2 hf.2, ?_⟩))
          rw [flatAny_V rx hf.1 h2 hf.2]
          exact q
        · split at h
          · rename_i p ps hp hps
            split at h
            · rename_i hsh
              cases h
              simp only [Bool.and_eq_true] at hsh
              cases hl : lstOf S e with
              | none => rw [hl] at hps; cases hps
              | some es =>
                rw [hl] at hps
                have hps' : toPs es = some ps := hps
                obtain ⟨a', vs', e1', h1', h2'⟩ := bY.lstOf s.e1 hl
                have rx : RepV g.K F r d x ∨ ∃ ds', d = .lst ds' := by
                  rcases bx with bx | ⟨_, _, bx⟩
                  · exact .inl bx
                  · cases d with
                    | lst ds' => exact .inr ⟨ds', rfl⟩
                    | dct kvs => cases hp
                    | _ => exact bx.elim
                have dx : Dp g.K H x p := by
                  have z : toPS S d = some p := by
                    cases d with
                    | ref i => cases hp
                    | _ => exact hp
                  exact bx.dp s z
                refine .inr (.inr (.inr ⟨p, ps, dx, ?_, hsh.1, hsh.2, q⟩))
                rw [e1']
                exact .lst (SqL.of h1') (RepL.dp s.e1 h2' hps')
            · cases h
          · cases h
      · cases h
theorem prim_in : PrimC g pIn (rInA g.K false) := by
  intro B F r f S σ H d e x y k Q s bx bY h q
  exact in_gen false s bx bY h q
theorem prim_notIn : PrimC g pNotIn (rInA g.K true) := by
  intro B F r f S σ H d e x y k Q s bx bY h q
  unfold pNotIn at h
  cases hp : pIn S d e with
  | none => rw [hp] at h; cases h
  | some k0 =>
    rw [hp] at h
    cases h
    exact in_gen true s bx bY hp q
theorem is_non {d : D} {v : V} (h : BV g F r H d v) : decide (v = .non) = isNon d := by
  rcases h with h | ⟨a, rfl, h⟩
  · cases h <;> rfl
  · cases d <;> first | rfl | exact h.elim
theorem prim_is : PrimC g pIs (fun x y H Q => y = .non ∧ Q (.bl (decide (x = .non))) H) := by
  intro B F r f S σ H d e x y k Q s bx bY h q
  unfold pIs at h
  split at h
  · cases h
    exact ⟨bY.non, by rw [is_non bx]; exact q⟩
  · cases h
theorem prim_isNot : PrimC g pIsNot (fun x y H Q => y = .non ∧ Q (.bl (!decide (x = .non))) H) := by
  intro B F r f S σ H d e x y k Q s bx bY h q
  unfold pIsNot at h
  cases hp : pIs S d e with
  | none => rw [hp] at h; cases h
  | some k0 =>
    rw [hp] at h
    cases h
    have h := hp
    unfold pIs at h
    split at h
    · cases h
      exact ⟨bY.non, by rw [is_non bx]; exact q⟩
    · cases h
theorem cmpOp_ok {X : Cx} (hK : X.K = g.K) (hu : X.A.units + 65 < cLine) (op : CmpOp) : CmpOk g X op (cmpOp op) := by
  cases op
  · exact ⟨rEqA X.K, op_eq.or (op_eqD (by omega)), by rw [hK]; exact prim_eq⟩
  · exact ⟨rNeA X.K, op_ne.or (op_neD (by omega)), by rw [hK]; exact prim_ne⟩
  · exact ⟨rLtA, op_lt.or op_lt_str, prim_lt⟩
  · exact ⟨rLeA, op_le.or op_le_str, prim_le⟩
  · exact ⟨rGtA, op_gt.or op_gt_str, prim_gt⟩
  · exact ⟨rGeA, op_ge.or op_ge_str, prim_ge⟩
  · exact ⟨_, op_isN, prim_is⟩
  · exact ⟨_, op_notN, prim_isNot⟩
  · exact ⟨rInA X.K false, or_in hu, by rw [hK]; exact prim_in⟩
  · exact ⟨rInA X.K true, or_notIn hu, by rw [hK]; exact prim_notIn⟩
/-- no set is written there -/
def noSet : Expr → Bool
  | .Set _ _ _ => false
  | _ => true
theorem noMark {b : Expr} (h : noSet b = true) (op : CmpOp) : behindInMarks op b = false := by
  cases b <;> first | rfl | cases h
theorem PrimC.p2 {h : Store → D → D → Option Bool} {rr : R2} (p : PrimC g h rr) : Prim2 (α := Bool) (β := Bool) g PB h (fun x y H Q => rr x y H fun z H' => ∃ k, z = .bl k ∧ Q k H') := by
  intro B F r f S σ H d e x y res Q s bx bY hh q
  exact p B F r f S σ H d e x y res _ s bx bY hh ⟨res, rfl, q F r H res .refl s rfl⟩
theorem snd_cmpT {X : Cx} {op : CmpOp} {h : Store → D → D → Option Bool} {a b : Expr} {oa ob : Op} {pos : Pos} (k : CmpOk g X op h) (ns : noSet b = true) (ha : PE X a (tOp1 g W oa)) (hb : PE X b (tOp1 g W ob)) : PT X (.Compare a [op] [b] pos) (tB g W (mBin h oa ob)) := by
  obtain ⟨rr, h1, h2⟩ := k
  exact PT.imp (pt_cmpR h1 ha hb (noMark ns op)) fun σ H Q q => mBin_run h2.p2 q
/-- a comparison as a value -/
theorem PrimC.pv {h : Store → D → D → Option Bool} {rr : R2} (p : PrimC g h rr) : Prim2 (α := D) (β := V) g (PD g) (fun S d e => (h S d e).map .bl) rr := by
  intro B F r f S σ H d e x y res Q s bx bY hh q
  replace hh : (h S d e).map D.bl = some res := hh
  cases hk : h S d e with
  | none => rw [hk] at hh; cases hh
  | some k =>
    rw [hk] at hh
    cases hh
    exact p B F r f S σ H d e x y k _ s bx bY hk (q F r H _ .refl s (.bl k))
theorem snd_cmp {X : Cx} {op : CmpOp} {h : Store → D → D → Option Bool} {a b : Expr} {oa ob : Op} {pos : Pos} (k : CmpOk g X op h) (ns : noSet b = true) (ha : PE X a (tOp1 g W oa)) (hb : PE X b (tOp1 g W ob)) : PE X (.Compare a [op] [b] pos) (tE g W (mBin (fun S d e => (h S d e).map .bl) oa ob)) := by
  obtain ⟨rr, h1, h2⟩ := k
  exact PE.imp (pe_cmpR h1 ha hb (noMark ns op)) fun σ H Q q => mBin_run h2.pv q
theorem at2C {α β : Type} {P : Bs → Hp → List Addr → Fr → L2.St → Hp → α → β → Prop} {h : Store → D → D → Option Bool} {rr : R2} (p : PrimC g h rr) {x y : Nat ⊕ D} {v w : V} {k : Bool → M α} {Q : β → Hp → Prop} {Q2 : VK}
    (s : SR g B F r f S σ H) (px : PO1 g F r σ x v) (py : PO1 g F r σ y w) (q : Run g W P B F r σ (mBind (at2 h x y) k g.cx f S) Q) (z : ∀ b, Run g W P B F r σ (k b g.cx f S) Q → Q2 (.bl b) H) : rr v w H Q2 := by
  unfold mBind at2 at q
  cases e : opR f x with
  | none => rw [e] at q; exact q.elim
  | some d =>
    cases e1 : opR f y with
    | none => rw [e, e1] at q; exact q.elim
    | some d2 =>
      rw [e, e1] at q
      dsimp only at q
      cases e2 : h S d d2 with
      | none => rw [e2] at q; exact q.elim
      | some res => rw [e2] at q; exact p B F r f S σ H d d2 v w res Q2 s (s.opR px e) (s.opR py e1) e2 (z res q)
/-- a < b < c, as a test -/
theorem snd_chainT {X : Cx} {op op' : CmpOp} {h h' : Store → D → D → Option Bool} {a b c : Expr} {oa ob oc : Op} {pos : Pos} (k : CmpOk g X op h) (k' : CmpOk g X op' h') (ns : noSet c = true) (ha : PE X a (tOp1 g W oa)) (hb : PE X b (tOp1 g W ob)) (hc : PE X c (tOp1 g W oc)) :
    PT X (.Compare a [op, op'] [b, c] pos) (tB g W (mChain h h' oa ob oc)) := by
  obtain ⟨rr, h1, h2⟩ := k
  obtain ⟨rr', h1', h2'⟩ := k'
  refine PT.imp (pt_chain h1 h1' ha hb hc (noMark ns op')) fun σ H Q q => ?_
  obtain ⟨B, F, r, f, S, s, q⟩ := q
  refine tOp1.mono (opE_then s q) fun v H1 ⟨x, F1, r1, f1, S1, l1, s1, px, q1⟩ => ?_
  refine tOp1.mono (opE_then s1 q1) fun w H2 ⟨y, F2, r2, f2, S2, l2, s2, py, q2⟩ => ?_
  refine at2C h2 s2 (px.le l2) py q2 fun kk q3 => ⟨kk, rfl, ?_⟩
  cases kk with
  | false => exact ⟨false, rfl, Run.ok (P := PB) (a := false) q3 s2 rfl⟩
  | true =>
    refine tOp1.mono (opE_then s2 q3) fun w' H4 ⟨z', F4, r4, f4, S4, l4, s4, pz, q4⟩ => ?_
    exact at2_run h2'.p2 s4 (py.le l4) pz q4
end
end Mi
set_option Elab.async false
set_option linter.all false
set_option maxRecDepth 100000
/-! Mi, part 8: names, constants, tests, displays. -/
namespace Mi
open PySem PySem.Spec L2
/-- a value told to the caller -/
def RXc (g : G) (B : Bs) (F : Hp) (r : List Addr) (H : Hp) (d : D) (fr : Bool) (v : V) : Prop :=
  if fr = true then ∃ a, v = .ref a ∧ CoR g.K F r H d a ∧ F a = none ∧ a ∉ r ∧ B.H a = none else RepV g.K F r d v
/-- what is wanted of a call's end -/
def RunC (g : G) (B : Bs) (res : CR) (Q : VK) (E : XK) : Prop := match res with
  | .rt d fr S' => ∀ F' r' H' v, E1 g F' r' S' H' → Since B F' r' H' → RXc g B F' r' H' d fr v → Q v H'
  | .exc c fs S' => ∀ F' r' H' dd vs, E1 g F' r' S' H' → Since B F' r' H' → H' dd = some (.xd vs) → RepF g.K F' r' fs vs → E (.ref (g.cls c)) (some dd) H'
  | .bad => False
/-- a def's promise: it does what the evaluator tells -/
def spM (g : G) (n i : Nat) : Sp := fun vs H Q E => vs.length = n ∧ ∃ F r S ds lam, E1 g F r S H ∧ RepL g.K F r ds vs ∧ RunC g ⟨F, r, strip H, [], fun _ => none, fun _ => none⟩ (g.call i (ds.map .val) lam S) Q E
/-- what is fixed of a body's context: its scope, its names, those that are written as cells -/
structure Qc where
  sc : Scope
  N : List Str
  fn : Str → Bool
/-- a global name -/
def GlQ (q : Qc) (x : Str) : Prop := q.sc.names.lookup x = some .globalImplicit
/-- a def's body (or within a try there) -/
structure Frm (X : Cx) : Prop where
  stack : X.stack = X.env :: X.outer
  frame : X.env.frame = some X.env.locals
/-- a function keeps its promise wherever no repr is under way -/
structure FnG (P : Program) (w : World) (K : PySem.W.Frag) (mg : Str → Option Value) (base : Heap) (k : Nat) (fi : FnI) (sp : Sp) : Prop where
  len : ∀ vs H Q E, sp vs H Q E → vs.length = fi.ps.length
  go : ∀ (A : Around) (outer : List Env) (s : Shared) (H : Hp) (args : Args) (us : List Value) (vs : List V) (Q : VK) (E : XK), A.guards = some [] → Room k A → Env0 P w K mg base A outer s H → BindsTo s fi.fd args (fi.ps.zip us) → Vals vs us → sp vs H Q E →
    codeAny (model P w) A (.call (.ref fi.f) args) (L2.CR (L2.CX P w) outer P w H s Q E) s
theorem FnG.imp {P : Program} {w : World} {K : PySem.W.Frag} {mg : Str → Option Value} {base : Heap} {k : Nat} {fi : FnI} {sp sp' : Sp} (F : FnG P w K mg base k fi sp) (h : ∀ vs H Q E, sp' vs H Q E → sp vs H Q E) : FnG P w K mg base k fi sp' :=
  ⟨fun vs H Q E q => F.len vs H Q E (h _ _ _ _ q), fun A outer s H args us vs Q E g1 g2 g3 g4 g5 g6 => F.go A outer s H args us vs Q E g1 g2 g3 g4 g5 (h _ _ _ _ g6)⟩
structure Good (X : Cx) (W : WX) (g : G) (q : Qc) : Prop where
  K : X.K = g.K
  mg : X.mg = g.mg
  tk : Takes X W
  calm : X.calm = true
  N : X.N = q.N
  sc : X.env.scope = q.sc
  fn : X.fn = q.fn
  un : X.A.units + 65 < cLine
  gd : X.A.guards = some []
  rm : Room g.lv X.A
  lv2 : 2 ≤ g.lv
  lvd : 2 ≤ g.dep → g.lv = g.dep + 2
  lw : 2 ≤ g.dep → ∀ i fi, g.tab i = some fi → FnG X.prog X.w X.K X.mg X.base g.dep fi (spM g.low fi.ps.length i)
  rs : ∀ c nm fs, g.exc c = some (nm, fs) → ∃ fI fd, RaiseK X.prog X.w X.K X.mg X.base nm (g.cls c) fI fd (fs.map toStr) 1
  em : ∀ c h a b, g.exc c = some a → g.exc h = some b → PySem.W.exmOne X.K (.ref (g.cls c)) (.ref (g.cls h)) = some (decide (c = h))
  cl : ∀ i fi, g.tab i = some fi → FnG X.prog X.w X.K X.mg X.base g.lv fi (spM g fi.ps.length i) ∧ X.mg fi.name = some (.ref fi.f) ∧ PySem.W.keepIn X.K (.ref fi.f) = true ∧ Binds X.K fi.fd fi.ps []
  pass : PassesOwn (model X.prog X.w) X.A X.env X.xe
/-! ### values of `or`, `and` -/
def mOrV (a b : M D) : M D := mBind a fun d => mBind (mOpt2 d) fun k => if k = true then mPure d else b
where mOpt2 (d : D) : M Bool := fun _ f S => match truth S d with
  | some k => .ok k f S
  | none => .bad
def mTru (d : D) : M Bool := mOrV.mOpt2 d
def mAndV (a b : M D) : M D := mBind a fun d => mBind (mTru d) fun k => if k = true then b else mPure d
def mNotV (a : M D) : M D := mBind a fun d => mBind (mTru d) fun k => mPure (.bl !k)
section
variable {X : Cx} {g : G} {W : WX} {q : Qc} {B : Bs} {F F' H H' : Hp} {r r' : List Addr} {σ : L2.St} {f : Fr} {S : Store}
/-! ### a slot is set -/
theorem ownAt_ne {i k : Nat} {sl : Sl} {a : Addr} (hno : ∀ d, sl ≠ .own d) (h : ownAt (f.set i sl) σ k a) : k ≠ i ∧ ownAt f σ k a := by
  obtain ⟨⟨d, h1⟩, h2⟩ := h
  by_cases e : i = k
  · subst e
    rw [List.getElem?_set_self' ] at h1
    cases z : f[i]? with
    | none => rw [z] at h1; cases h1
    | some w => rw [z] at h1; simp at h1; exact absurd h1 (hno d)
  · rw [List.getElem?_set_ne e] at h1
    exact ⟨fun z => e z.symm, ⟨d, h1⟩, h2⟩
theorem SR.setSl (s : SR g B F r f S σ H) {i : Nat} {sl : Sl} (hno : ∀ d, sl ≠ .own d) (h : SlR g F r H sl (σ[i]?)) : SR g B F r (f.set i sl) S σ H := by
  refine ⟨s.e1, by rw [List.length_set]; exact s.len, fun k sl' e => ?_, fun k a ha => s.ow k a (ownAt_ne hno ha).2, fun j k a h1 h2 => s.od j k a (ownAt_ne hno h1).2 (ownAt_ne hno h2).2, s.bs, fun a o h => ?_, s.lck⟩
  by_cases ek : i = k
  · subst ek
    rw [List.getElem?_set_self'] at e
    cases z : f[i]? with
    | none => rw [z] at e; cases e
    | some w => rw [z] at e; simp at e; subst e; exact h
  · rw [List.getElem?_set_ne ek] at e
    exact s.slot k sl' e
  · obtain ⟨h1, h2, h3, h4, h5⟩ := s.pin a o h
    exact ⟨h1, h2, h3, h4, fun k hk => h5 k (ownAt_ne hno hk).2⟩
/-- what a slot owns is frozen -/
theorem SR.freezeAt (s : SR g B F r f S σ H) {i : Nat} {d : D} (h : f[i]? = some (.own d)) : ∃ F' a, σ[i]? = some (some (.ref a)) ∧ Le F r F' r ∧ SR g B F' r (f.set i (.val d)) S σ H ∧ RepV g.K F' r d (.ref a) := by
  obtain ⟨a, h1, h2⟩ := s.slot i _ h
  have hi : ownAt f σ i a := ⟨⟨d, h⟩, h1⟩
  obtain ⟨k1, k2, k3⟩ := s.ow i a hi
  have s0 := s.setSl (i := i) (sl := .un) (fun d e => by cases e) trivial
  have n : New g B F r (f.set i .un) σ H d a := ⟨h2, k1, k2, k3, fun k hk => by
    obtain ⟨e1, e2⟩ := ownAt_ne (fun d e => by cases e) hk
    exact e1 (s.od k i a e2 hi), by
      cases e : B.P a with
      | none => rfl
      | some o => exact absurd hi ((s.pin a o e).2.2.2.2 i)⟩
  obtain ⟨F', l, s1, rp⟩ := s0.freeze n
  have s2 := s1.setSl (i := i) (sl := .val d) (fun d e => by cases e) ⟨_, h1, rp⟩
  rw [List.set_set] at s2
  exact ⟨F', a, h1, l, s2, rp⟩
theorem mVar_run {i : Nat} {Q : VK} (h : tE g W (mVar i) σ H Q) : tVar i σ H Q := by
  obtain ⟨B, F, r, f, S, s, h⟩ := h
  unfold mVar at h
  cases e : f[i]? with
  | none => rw [e] at h; exact h.elim
  | some sl =>
    rw [e] at h
    cases sl with
    | val d =>
      obtain ⟨v, h1, h2⟩ := s.slot i _ e
      exact ⟨v, h1, Run.ok (P := PD g) h s h2⟩
    | own d =>
      obtain ⟨F', a, h1, l, s1, rp⟩ := s.freezeAt e
      exact ⟨_, h1, h F' r H _ l s1 rp⟩
    | un => exact h.elim
    | ex fs => exact h.elim
    | lam => exact h.elim
/-- a name of the block's -/
theorem Good.var (c : Good X W g q) {i : Nat} {x : Str} {pos : Pos} (hN : q.N[i]? = some x) (hv : Vis q.sc x) (hd : (x == ("__debug__" : Str)) = false := by decide) (hcd : (x == ("__classdict__" : Str)) = false := by decide) : PE X (.Name x pos) (tVar i) :=
  pe_var (by rw [c.N]; exact hN) (by rw [c.sc]; exact hv) hd hcd
theorem snd_op (c : Good X W g q) {i : Nat} {x : Str} {pos : Pos} (hN : q.N[i]? = some x) (hv : Vis q.sc x) (hd : (x == ("__debug__" : Str)) = false := by decide) (hcd : (x == ("__classdict__" : Str)) = false := by decide) : PE X (.Name x pos) (tOp1 g W (.s i)) := c.var hN hv hd hcd
theorem snd_var (c : Good X W g q) {i : Nat} {x : Str} {pos : Pos} (hN : q.N[i]? = some x) (hv : Vis q.sc x) (hd : (x == ("__debug__" : Str)) = false := by decide) (hcd : (x == ("__classdict__" : Str)) = false := by decide) : PE X (.Name x pos) (tE g W (mVar i)) :=
  PE.imp (c.var hN hv hd hcd) fun _ _ _ h => mVar_run h
theorem snd_e {e : Expr} {m : M D} (h : PE X e (tE g W m)) : PE X e (tOp1 g W (.e m)) := h
/-- a constant -/
theorem mC_run {d : D} {v : V} {Q : VK} (hv : ∀ F r, RepV g.K F r d v) (h : tE g W (mC d) σ H Q) : tC v σ H Q := by
  obtain ⟨B, F, r, f, S, s, h⟩ := h
  exact Run.ok (P := PD g) (a := d) h s (hv F r)
theorem snd_int {i j pos} : PE X (.Constant (.int i) j pos) (tE g W (mC (.int i))) := PE.imp pe_int fun _ _ _ h => mC_run (fun _ _ => .int i) h
theorem snd_bl {i j pos} : PE X (.Constant (.bool i) j pos) (tE g W (mC (.bl i))) := PE.imp pe_bl fun _ _ _ h => mC_run (fun _ _ => .bl i) h
theorem snd_non {j pos} : PE X (.Constant .none j pos) (tE g W (mC .non)) := PE.imp pe_non fun _ _ _ h => mC_run (fun _ _ => .non) h
theorem snd_str {x : Str} {y : Tx} {j pos} (e : x = toStr y) : PE X (.Constant (.str x) j pos) (tE g W (mC (.str y))) := PE.imp pe_str fun _ _ _ h => mC_run (fun _ _ => by rw [e]; exact .str y) h
theorem snd_glob (c : Good X W g q) {x : Str} {d : D} {v : V} {u : Value} {pos : Pos} (hg : GlQ q x) (hm : g.mg x = some u) (r : RelV v u) (hv : ∀ F r, RepV g.K F r d v) (hd : (x == ("__debug__" : Str)) = false := by decide) : PE X (.Name x pos) (tE g W (mC d)) :=
  PE.imp (pe_glob (by unfold Gl Env.kindOf; rw [c.sc]; exact hg) (by rw [c.mg]; exact hm) r hd) fun _ _ _ h => mC_run hv h

/-! ### tests -/
theorem TruV.of (s : SR g B F r f S σ H) {d : D} {v : V} {k : Bool} (h : BV g F r H d v) (e : truth S d = some k) : TruV g.K v H k := by
  have sq : ∀ {ds : List D}, seqOf S d = some ds → k = (!ds.isEmpty) → TruV g.K v H k := fun {ds} h1 h2 => by
    obtain ⟨a, vs, rfl, h3, h4⟩ := h.seqOf s.e1 h1
    have e2 : (!ds.isEmpty) = !vs.isEmpty := by cases h4 <;> rfl
    rcases h3 with h3 | h3
    · exact .inl ⟨vs, h3, by rw [h2, e2]⟩
    · exact .inr (.inl ⟨vs, h3, by rw [h2, e2]⟩)
  cases d with
  | non => cases e; rw [h.non]; rfl
  | bl b => cases e; rw [h.bl]; rfl
  | int i => cases e; rw [h.int]; rfl
  | str x =>
    have e' : (if x.length ≤ LIM then some (x.length != 0) else none) = some k := e
    split at e'
    · rename_i hl
      cases e'
      rw [h.str]
      refine ⟨by rw [lim_eq, toStr_len]; exact hl, ?_⟩
      rw [toStr_len, Bool.eq_iff_iff]
      simp
    · cases e'
  | tup ds => cases e; exact sq rfl rfl
  | lst ds => cases e; exact sq rfl rfl
  | scr ns =>
    cases e
    refine sq rfl ?_
    cases ns <;> rfl
  | dct kvs => cases e
  | ref i =>
    unfold truth at e
    dsimp only at e
    cases ho : S[i]? with
    | none => rw [ho] at e; cases e
    | some o =>
      rw [ho] at e
      cases o with
      | lst es => cases e; exact sq (by unfold seqOf; dsimp only; rw [ho]) rfl
      | dct es =>
        cases e
        obtain ⟨a, rfl, ⟨vs, h1, h2⟩, _⟩ := h.rf s.e1 ho
        refine .inr (.inr ⟨vs, h1, ?_⟩)
        cases h2 <;> rfl
theorem prim_truth : Prim1 (α := Bool) (β := Bool) g PB truth (fun x H Q => ∃ k, TruV g.K x H k ∧ Q k H) := by
  intro B F r f S σ H d x res Q s bx h q
  exact ⟨res, TruV.of s bx h, q F r H res .refl s rfl⟩
/-- a value as a test -/
theorem snd_truth (c : Good X W g q) {a : Expr} {oa : Op} (ha : PE X a (tOp1 g W oa)) (he : ∀ whole, isTrue a X.env whole = (do let v ← whole; standAt a.pos; holding [v] (truthy v)) := by intro _; rfl) : PT X a (tB g W (mTruth oa)) :=
  PT.imp (pt_truth ha he) fun σ H Q h => by rw [c.K]; exact mUn_run prim_truth h
/-- a test behind a test -/
theorem mB_run {α β : Type} {P : Bs → Hp → List Addr → Fr → L2.St → Hp → α → β → Prop} {t : M Bool} {k : Bool → M α} {Q : β → Hp → Prop} (h : tM g W P (mBind t k) σ H Q) : tB g W t σ H fun b H1 => tM g W P (k b) σ H1 Q := by
  obtain ⟨B, F, r, f, S, s, h⟩ := h
  refine tM.mono (tM.of (P := PB) s (Run.bind h)) fun v H1 ⟨d, F1, r1, f1, S1, l1, s1, p, q1⟩ => ?_
  cases (show d = v from p)
  exact tM.of s1 q1
theorem mPB_run {b : Bool} {Q : Bool → Hp → Prop} (h : tB g W (mPure b) σ H Q) : Q b H := by
  obtain ⟨B, F, r, f, S, s, h⟩ := h
  exact Run.ok (P := PB) (a := b) h s rfl
theorem snd_not {a : Expr} {t : M Bool} {pos : Pos} (ha : PT X a (tB g W t)) : PT X (.UnaryOp .Not a pos) (tB g W (mNot t)) :=
  PT.imp (pt_not ha) fun σ H Q h => tM.mono (mB_run h) fun b H1 h1 => mPB_run h1
theorem snd_and1 {a : Expr} {t : M Bool} {pos : Pos} (ha : PT X a (tB g W t)) : PW X (.BoolOp .And [a] pos) (tB g W t) := pw_and1 ha
theorem snd_or1 {a : Expr} {t : M Bool} {pos : Pos} (ha : PT X a (tB g W t)) : PW X (.BoolOp .Or [a] pos) (tB g W t) := pw_or1 ha
theorem snd_and {a b : Expr} {rest : List Expr} {t u : M Bool} {pos : Pos} (ha : PT X a (tB g W t)) (hb : PW X (.BoolOp .And (b :: rest) pos) (tB g W u)) : PW X (.BoolOp .And (a :: b :: rest) pos) (tB g W (mAnd t u)) :=
  PW.imp (pw_and ha hb) fun σ H Q h => tM.mono (mB_run h) fun b H1 h1 => by
    cases b with
    | true => exact h1
    | false => exact mPB_run h1
theorem snd_or {a b : Expr} {rest : List Expr} {t u : M Bool} {pos : Pos} (ha : PT X a (tB g W t)) (hb : PW X (.BoolOp .Or (b :: rest) pos) (tB g W u)) : PW X (.BoolOp .Or (a :: b :: rest) pos) (tB g W (mOr t u)) :=
  PW.imp (pw_or ha hb) fun σ H Q h => tM.mono (mB_run h) fun b H1 h1 => by
    cases b with
    | true => exact mPB_run h1
    | false => exact h1
/-- a BoolOp as a test -/
theorem snd_bt {e : Expr} {t : TT} (h : PW X e t) : PT X e t := ⟨fun pins s σ H Q I hw => h.run _ pins s σ H Q I hw⟩
/-- a test as a value -/
theorem mBl_run {t : M Bool} {Q : VK} (h : tE g W (mBl t) σ H Q) : tB g W t σ H fun b H1 => Q (.bl b) H1 :=
  tM.mono (mB_run h) fun b H1 ⟨B, F, r, f, S, s, h⟩ => Run.ok (P := PD g) (a := .bl b) h s (.bl b)
/-! ### by truth, as values -/
theorem mTru_then {α β : Type} {P : Bs → Hp → List Addr → Fr → L2.St → Hp → α → β → Prop} {d : D} {v : V} {k : Bool → M α} {Q : β → Hp → Prop} (s : SR g B F r f S σ H) (p : RepV g.K F r d v) (h : Run g W P B F r σ (mBind (mTru d) k g.cx f S) Q) :
    ∃ b, TruV g.K v H b ∧ Run g W P B F r σ (k b g.cx f S) Q := by
  replace h : Run g W P B F r σ ((match truth S d with
    | some k => .ok k f S
    | none => .bad : R Bool).bind fun a f S => k a g.cx f S) Q := h
  cases e : truth S d with
  | none => rw [e] at h; exact h.elim
  | some b =>
    rw [e] at h
    exact ⟨b, TruV.of s (.inl p) e, h⟩
theorem snd_orV1 {op : BoolOp} {a : Expr} {m : M D} {pos : Pos} (ha : PE X a (tE g W m)) : PE X (.BoolOp op [a] pos) (tE g W m) := pe_one ha
theorem snd_orV (c : Good X W g q) {a b : Expr} {rest : List Expr} {m n : M D} {pos : Pos} (ha : PE X a (tE g W m)) (hb : PE X (.BoolOp .Or (b :: rest) pos) (tE g W n)) : PE X (.BoolOp .Or (a :: b :: rest) pos) (tE g W (mOrV m n)) :=
  PE.imp (pe_orT ha hb) fun σ H Q ⟨B, F, r, f, S, s, h⟩ => by
    refine tM.mono (tM.of (P := PD g) s (Run.bind h)) fun v H1 ⟨d, F1, r1, f1, S1, l1, s1, p, q1⟩ => ?_
    obtain ⟨k, t, q2⟩ := mTru_then s1 p q1
    refine ⟨k, by rw [c.K]; exact t, ?_⟩
    cases k with
    | true => exact Run.ok (P := PD g) (a := d) q2 s1 p
    | false => exact tM.of s1 q2
theorem snd_andV (c : Good X W g q) {a b : Expr} {rest : List Expr} {m n : M D} {pos : Pos} (ha : PE X a (tE g W m)) (hb : PE X (.BoolOp .And (b :: rest) pos) (tE g W n)) : PE X (.BoolOp .And (a :: b :: rest) pos) (tE g W (mAndV m n)) :=
  PE.imp (pe_andT ha hb) fun σ H Q ⟨B, F, r, f, S, s, h⟩ => by
    refine tM.mono (tM.of (P := PD g) s (Run.bind h)) fun v H1 ⟨d, F1, r1, f1, S1, l1, s1, p, q1⟩ => ?_
    obtain ⟨k, t, q2⟩ := mTru_then s1 p q1
    refine ⟨k, by rw [c.K]; exact t, ?_⟩
    cases k with
    | true => exact tM.of s1 q2
    | false => exact Run.ok (P := PD g) (a := d) q2 s1 p
theorem snd_notV (c : Good X W g q) {a : Expr} {m : M D} {pos : Pos} (ha : PE X a (tE g W m)) : PE X (.UnaryOp .Not a pos) (tE g W (mNotV m)) :=
  PE.imp (pe_notT ha) fun σ H Q ⟨B, F, r, f, S, s, h⟩ => by
    refine tM.mono (tM.of (P := PD g) s (Run.bind h)) fun v H1 ⟨d, F1, r1, f1, S1, l1, s1, p, q1⟩ => ?_
    obtain ⟨k, t, q2⟩ := mTru_then s1 p q1
    exact ⟨k, by rw [c.K]; exact t, Run.ok (P := PD g) (a := .bl !k) q2 s1 (.bl _)⟩
/-- a if c else b -/
theorem snd_ifx {α : Type} {P : Bs → Hp → List Addr → Fr → L2.St → Hp → α → V → Prop} {c a b : Expr} {t : M Bool} {m n : M α} {pos : Pos} (hc : PT X c (tB g W t)) (ha : PE X a (tM g W P m)) (hb : PE X b (tM g W P n)) : PE X (.IfExp c a b pos) (tM g W P (mIf t m n)) :=
  PE.imp (pe_ifExp hc ha hb) fun σ H Q h => tM.mono (mB_run h) fun k H1 h1 => by
    cases k with
    | true => exact h1
    | false => exact h1
/-! ### displays -/
theorem snd_nil : PA X [] (tAlls g W []) := pa_nil
theorem snd_cons {e : Expr} {es : List Expr} {m : M D} {ms : List (M D)} (h : PE X e (tE g W m)) (hr : PA X es (tAlls g W ms)) (hs : starEach (e :: es) X.env = (false, eval e X.env) :: starEach es X.env := by rfl) : PA X (e :: es) (tAlls g W (m :: ms)) := pa_cons h hr hs
theorem snd_onil : PA X [] (tOps g W []) := pa_nil
theorem snd_ocons {e : Expr} {es : List Expr} {o : Op} {os : List Op} (h : PE X e (tOp1 g W o)) (hr : PA X es (tOps g W os)) (hs : starEach (e :: es) X.env = (false, eval e X.env) :: starEach es X.env := by rfl) : PA X (e :: es) (tOps g W (o :: os)) := pa_cons h hr hs
theorem mAll_then {α : Type} {P : Bs → Hp → List Addr → Fr → L2.St → Hp → α → V → Prop} {ms : List (M D)} {k : List D → M α} {Q : VK} (h : tM g W P (mBind (mAll ms) k) σ H Q) : tAlls g W ms σ H fun vs H1 => ∃ B ds F r f S, SR g B F r f S σ H1 ∧ RepL g.K F r ds vs ∧ Run g W P B F r σ (k ds g.cx f S) Q := by
  obtain ⟨B, F, r, f, S, s, h⟩ := h
  exact tAlls_mono (mAll_run s (Run.bind (P := PLs g) h)) fun vs H1 ⟨ds, F1, r1, f1, S1, l1, s1, p, q1⟩ => ⟨B, ds, F1, r1, f1, S1, s1, p, q1⟩
theorem snd_tup {x1} {es : List Expr} {ms : List (M D)} {pos : Pos} (h : PA X es (tAlls g W ms)) : PE X (.Tuple es x1 pos) (tX g W (mTup ms)) :=
  PE.imp (pe_tup h) fun σ H Q h => tAlls_mono (mAll_then h) fun vs H1 ⟨B, ds, F, r, f, S, s, p, h⟩ => by
    have h' : Run g W (PX g) B F r σ (if ds.length ≤ LIM then .ok (.tup ds, false) f S else .bad) Q := h
    split at h'
    · rename_i hl
      refine ⟨by rw [← p.length, lim_eq]; exact hl, fun a ha => ?_⟩
      obtain ⟨F', l, s', rp⟩ := s.newT ha p
      exact h' F' r _ _ l s' (px_val rp)
    · exact h'.elim
theorem snd_lst {es : List Expr} {ms : List (M D)} {pos : Pos} (h : PA X es (tAlls g W ms)) : PE X (.List es pos) (tX g W (mLst ms)) :=
  PE.imp (pe_lst h) fun σ H Q h => tAlls_mono (mAll_then h) fun vs H1 ⟨B, ds, F, r, f, S, s, p, h⟩ => by
    have h' : Run g W (PX g) B F r σ (if ds.length ≤ LIM then .ok (.lst ds, true) f S else .bad) Q := h
    split at h'
    · rename_i hl
      refine ⟨by rw [← p.length, lim_eq]; exact hl, fun a ha => ?_⟩
      obtain ⟨s', n⟩ := s.newL ha p
      exact h' F r _ _ .refl s' (px_new n)
    · exact h'.elim
end
end Mi
set_option Elab.async false
set_option linter.all false
set_option maxRecDepth 100000
/-! Mi, part 9: subscripts, slices. -/
namespace Mi
open PySem PySem.Spec L2
/-- a slice's part -/
def mPart (m : M D) : M (Option Int) := mBind m fun d => mOpt (match d with
  | .int i => some (some i)
  | _ => none)
def mNoPart : M (Option Int) := mPure none
def mCut (a : Op) (lo hi : M (Option Int)) : M DX := mBind (opE a) fun x => mBind lo fun l => mBind hi fun u => at1 (fun S d => pCut S l u d) x
def rDct : R2 := fun x y H Q => ∃ a v, x = .ref a ∧ DGet H a y (some v) ∧ Q v H
theorem ix_dict {X : Cx} (hu : X.A.units + 1 < cLine) : IxR X rDct := by
  intro value slice pins s σ H x y v u Q I rx ry h hs
  obtain ⟨a, z, rfl, g, q⟩ := h
  obtain rfl : v = Value.ref a := rx
  exact PyProof.Rows.tail_any (dict_typeIs I g) PySem.F.slot_dict_getitem.lookup (d_getItem hu I g ry fun w' s3 I3 rw' => ⟨z, H, I3, rw', q⟩) hs
def PO1t (g : G) : Bs → Hp → List Addr → Fr → L2.St → Hp → Option Int → Option Int → Prop := fun _ _ _ _ _ _ a b => a = b
abbrev tPt (g : G) (W : WX) (m : M (Option Int)) : TO := tM g W (PO1t g) m
section
variable {X : Cx} {g : G} {W : WX} {q : Qc} {B : Bs} {F F' H H' : Hp} {r r' : List Addr} {σ : L2.St} {f : Fr} {S : Store}
def rIxA (K : PySem.W.Frag) : R2 := fun x y H Q => rIx K x y H Q ∨ rDct x y H Q
theorem BV.rep_tup {ds : List D} {v : V} (h : BV g F r H (.tup ds) v) : RepV g.K F r (.tup ds) v := by
  rcases h with h | ⟨_, _, h⟩
  · exact h
  · exact h.elim
theorem prim_ix : Prim2 g (PX g) pIx (rIxA g.K) := by
  intro B F r f S σ H d e x y res Q s bx bY h q
  unfold pIx at h
  split at h
  · rename_i z i
    split at h
    · rename_i hl
      cases ha : atI z i with
      | none => rw [ha] at h; cases h
      | some c =>
        rw [ha] at h
        cases h
        refine .inl (.inr (.inr ⟨toStr z, i, c, bx.str, bY.int, by rw [lim_eq, toStr_len]; exact hl, ha, ?_⟩))
        exact q F r H _ .refl s (px_val (.str [c]))
    · cases h
  · split at h
    · rename_i kvs hk
      obtain ⟨a, vs, e1, h1, h2⟩ := bx.dctOf s.e1 hk
      split at h
      · rename_i k hk'
        cases hv : valK kvs k with
        | none => rw [hv] at h; cases h
        | some dd =>
          rw [hv] at h
          cases h
          have ey := asKy_V bY hk'
          rcases h2.val k with ⟨d', v', z1, z2, z3⟩ | ⟨z1, _⟩
          · rw [hv] at z1
            cases z1
            have dg := h1.get (kyK k)
            rw [z2] at dg
            exact .inr ⟨a, v', e1, by rw [ey]; exact dg, q F r H _ .refl s (px_val z3)⟩
          · rw [hv] at z1; cases z1
      · cases h
    · cases hs : seqOf S d with
      | none => rw [hs] at h; cases h
      | some ds =>
        rw [hs] at h
        obtain ⟨a, vs, e1, h1, h2⟩ := bx.seqOf s.e1 hs
        cases e with
        | int i => ?_
        | _ => cases h
        replace h : (atI ds i).map (fun d => (d, false)) = some res := h
        cases ha : atI ds i with
        | none => rw [ha] at h; cases h
        | some dd =>
          rw [ha] at h
          cases h
          have hav : ∃ v, L2.atI vs i = some v ∧ RepV g.K F r dd v := by
            unfold atI at ha
            unfold L2.atI
            have e2 : Mi.ixN ds.length i = L2.ixN vs.length i := by rw [h2.length]; rfl
            rw [e2] at ha
            cases hj : L2.ixN vs.length i with
            | none => rw [hj] at ha; cases ha
            | some j =>
              rw [hj] at ha
              obtain ⟨v, z1, z2⟩ := h2.get (show ds[j]? = some dd from ha)
              exact ⟨v, z1, z2⟩
          obtain ⟨v, hv, rv⟩ := hav
          have qq := q F r H v .refl s (px_val rv)
          rcases h1 with h1 | h1
          · exact .inl (.inl ⟨a, vs, i, v, e1, bY.int, h1, hv, qq⟩)
          · exact .inl (.inr (.inl ⟨a, vs, i, v, e1, bY.int, h1, hv, qq⟩))
/-- a[b] -/
theorem snd_ix (c : Good X W g q) {a b : Expr} {oa ob : Op} {pos : Pos} (ha : PE X a (tOp1 g W oa)) (hb : PE X b (tOp1 g W ob)) (hs : PlainIx b := by intro _ _; rfl) : PE X (.Subscript a b pos) (tX g W (mBin pIx oa ob)) :=
  PE.imp (pe_ix (IxR.or ix_seq (ix_dict (by have := c.un; omega))) ha hb hs) fun σ H Q h => by rw [c.K]; exact mBin_run prim_ix h
/-! ### slices -/
theorem SlR.or' {r r' : V → Option Int → Option Int → Hp → VK → Prop} (h : L2.SlR X r) (h' : L2.SlR X r') : L2.SlR X (fun x lo hi H Q => r x lo hi H Q ∨ r' x lo hi H Q) := by
  intro pins s σ H x v vl vu lo hi sl Q I rx hs pl pu q
  rcases q with q | q
  · exact h pins s σ H x v vl vu lo hi sl Q I rx hs pl pu q
  · exact h' pins s σ H x v vl vu lo hi sl Q I rx hs pl pu q
def rCut (K : PySem.W.Frag) : V → Option Int → Option Int → Hp → VK → Prop := fun x lo hi H Q => rSlS x lo hi H Q ∨ (rSlL K x lo hi H Q ∨ rSlT K x lo hi H Q)
theorem sl_all3 : L2.SlR X (rCut X.K) := SlR.or' sl_str (SlR.or' sl_list sl_tup)
theorem cut_rep {ds : List D} {vs : List V} {lo hi : Option Int} (h : RepL g.K F r ds vs) : RepL g.K F r (cut ds lo hi) (cutV vs lo hi) := by
  have e1 : ∀ d o, Mi.sIx ds.length d o = HT.sIx vs.length d o := fun d o => by rw [h.length]; rfl
  unfold cut cutV
  rw [e1, e1, h.length]
  exact (h.drop _).take _
theorem prim_cut {lo hi : Option Int} : Prim1 g (PX g) (fun S d => pCut S lo hi d) (fun x H Q => rCut g.K x lo hi H Q) := by
  intro B F r f S σ H d x res Q s bx h q
  replace h : pCut S lo hi d = some res := h
  unfold pCut at h
  split at h
  · rename_i z
    split at h
    · rename_i hl
      cases h
      refine .inl ⟨toStr z, bx.str, by rw [lim_eq, toStr_len]; exact hl, ?_⟩
      have e : cutS (toStr z) lo hi = toStr (cut z lo hi) := by
        unfold cutS cut
        rw [toStr_tl, toStr_len]
        rfl
      rw [e]
      exact q F r H _ .refl s (px_val (.str _))
    · cases h
  · rename_i ds
    split at h
    · cases h
    · rename_i hw
      cases h
      obtain ⟨a, vs, e1, h1, h2⟩ := bx.tup s.e1
      refine .inr (.inr ⟨a, vs, e1, h1, by rw [← h2.length]; exact hw, fun p hp => ?_⟩)
      obtain ⟨F', l, s', rp⟩ := s.newT hp (cut_rep (lo := lo) (hi := hi) h2)
      exact q F' r _ _ l s' (px_val rp)
  · split at h
    · rename_i ds hs
      cases h
      obtain ⟨a, vs, e1, h1, h2⟩ := bx.lsqOf s.e1 hs
      refine .inr (.inl ⟨a, vs, e1, h1, fun p hp => ?_⟩)
      obtain ⟨s', n⟩ := s.newL hp (cut_rep (lo := lo) (hi := hi) h2)
      exact q F r _ _ .refl s' (px_new n)
    · cases h
theorem snd_nopart : PO X none (tPt g W mNoPart) := by
  refine ⟨fun pins s σ H Q I ⟨B, F, r, f, S, sr, h⟩ => po_none.run pins s σ H Q I ?_⟩
  exact Run.ok (P := PO1t g) (a := none) h sr rfl
theorem snd_part {e : Expr} {m : M D} (he : PE X e (tE g W m)) : PO X (some e) (tPt g W (mPart m)) := by
  refine ⟨fun pins s σ H Q I ⟨B, F, r, f, S, sr, h⟩ => (po_some he).run pins s σ H Q I ?_⟩
  refine tM.mono (tM.of (P := PD g) sr (Run.bind h)) fun v H1 ⟨d, F1, r1, f1, S1, l1, s1, p, q1⟩ => ?_
  cases d with
  | int i => cases p; exact ⟨i, rfl, Run.ok (P := PO1t g) (a := some i) q1 s1 rfl⟩
  | _ => exact q1.elim
/-- a[lo:hi] -/
theorem snd_cut (c : Good X W g q) {a : Expr} {lo hi : Option Expr} {oa : Op} {ml mh : M (Option Int)} {pos p2 : Pos} (ha : PE X a (tOp1 g W oa)) (hl : PO X lo (tPt g W ml)) (hu : PO X hi (tPt g W mh)) : PE X (.Subscript a (.Slice lo hi none p2) pos) (tX g W (mCut oa ml mh)) :=
  PE.imp (pe_slice sl_all3 ha hl hu) fun σ H Q ⟨B, F, r, f, S, s, h⟩ => by
    refine tOp1.mono (opE_then s h) fun v H1 ⟨x, F1, r1, f1, S1, l1, s1, px, q1⟩ => ?_
    refine tM.mono (tM.of (P := PO1t g) s1 (Run.bind q1)) fun v1 H2 ⟨d1, F2, r2, f2, S2, l2, s2, p2, q2⟩ => ?_
    cases (show d1 = v1 from p2)
    refine tM.mono (tM.of (P := PO1t g) s2 (Run.bind q2)) fun v2 H3 ⟨d2, F3, r3, f3, S3, l3, s3, p3, q3⟩ => ?_
    cases (show d2 = v2 from p3)
    rw [c.K]
    exact at1_run prim_cut s3 ((px.le l2).le l3) q3
end
end Mi
set_option Elab.async false
set_option linter.all false
set_option maxRecDepth 100000
/-! Mi, part 10: built-in functions. -/
namespace Mi
open PySem PySem.Spec L2
section
variable {X : Cx} {g : G} {W : WX} {q : Qc} {B : Bs} {F F' H H' : Hp} {r r' : List Addr} {σ : L2.St} {f : Fr} {S : Store}
/-- of one argument -/
theorem snd_f1 (c : Good X W g q) {x : Str} {id : String} {h : Store → D → Option DX} {rr : List V → Hp → VK → Prop} {e : Expr} {oe : Op} {p pos : Pos} (hc : CallR X (.builtin id) rr) (hp : Prim1 g (PX g) h (fun x H Q => rr [x] H Q))
    (hg : GlQ q x) (hm : g.mg x = none) (hv : bootBuiltins x = some (.builtin id)) (he : PE X e (tOp1 g W oe)) (hn : x ≠ "__name__") (hdb : (x == ("__debug__" : Str)) = false) (hs : starEach [e] X.env = [(false, eval e X.env)]) :
    PE X (.Call (.Name x p) [e] [] pos) (tX g W (mUn h oe)) :=
  PE.imp (pe_callB hc (by unfold Gl Env.kindOf; rw [c.sc]; exact hg) (by rw [c.mg]; exact hm) hv (pa_cons he pa_nil hs) hn hdb hs) fun σ H Q z => mUn_run hp z
theorem snd_t1 (c : Good X W g q) {x : Str} {id : String} {h : Store → D → Option DX} {rr : List V → Hp → VK → Prop} {e : Expr} {oe : Op} {p pos : Pos} (hc : CallR X (.type id) rr) (hp : Prim1 g (PX g) h (fun x H Q => rr [x] H Q))
    (hg : GlQ q x) (hm : g.mg x = none) (hv : bootBuiltins x = some (.type id)) (he : PE X e (tOp1 g W oe)) (hn : x ≠ "__name__") (hdb : (x == ("__debug__" : Str)) = false) (hs : starEach [e] X.env = [(false, eval e X.env)]) :
    PE X (.Call (.Name x p) [e] [] pos) (tX g W (mUn h oe)) :=
  PE.imp (pe_callTy hc (by unfold Gl Env.kindOf; rw [c.sc]; exact hg) (by rw [c.mg]; exact hm) hv (pa_cons he pa_nil hs) hn hdb hs) fun σ H Q z => mUn_run hp z
theorem snd_f2 (c : Good X W g q) {x : Str} {id : String} {h : Store → D → D → Option DX} {rr : List V → Hp → VK → Prop} {e e2 : Expr} {oe oe2 : Op} {p pos : Pos} (hc : CallR X (.builtin id) rr) (hp : Prim2 g (PX g) h (fun x y H Q => rr [x, y] H Q))
    (hg : GlQ q x) (hm : g.mg x = none) (hv : bootBuiltins x = some (.builtin id)) (he : PE X e (tOp1 g W oe)) (he2 : PE X e2 (tOp1 g W oe2)) (hn : x ≠ "__name__") (hdb : (x == ("__debug__" : Str)) = false)
    (hs : starEach [e, e2] X.env = (false, eval e X.env) :: starEach [e2] X.env) (hs2 : starEach [e2] X.env = [(false, eval e2 X.env)]) :
    PE X (.Call (.Name x p) [e, e2] [] pos) (tX g W (mBin h oe oe2)) :=
  PE.imp (pe_callB hc (by unfold Gl Env.kindOf; rw [c.sc]; exact hg) (by rw [c.mg]; exact hm) hv (pa_cons he (pa_cons he2 pa_nil hs2) hs) hn hdb hs (by rw [hs2]; rfl)) fun σ H Q z => mBin_run hp z
/-! ### len, abs, int, str, ord -/
def rLenA (K : PySem.W.Frag) : List V → Hp → VK → Prop := fun xs H Q => (∃ x n, xs = [x] ∧ LenV K x H n ∧ Q (.int n) H) ∨ (∃ a kvs, xs = [V.ref a] ∧ H a = some (.dK kvs) ∧ Q (.int kvs.length) H)
theorem prim_len : Prim1 g (PX g) bLen (fun x H Q => rLenA g.K [x] H Q) := by
  intro B F r f S σ H d x res Q s bx h q
  unfold bLen at h
  split at h
  · rename_i z
    split at h
    · rename_i hl
      cases h
      refine .inl ⟨x, z.length, rfl, ?_, q F r H _ .refl s (px_val (.int _))⟩
      rw [bx.str]
      exact ⟨by rw [lim_eq, toStr_len]; exact hl, (toStr_len z).symm⟩
    · cases h
  · split at h
    · rename_i ds hs
      cases h
      obtain ⟨a, vs, rfl, h1, h2⟩ := bx.seqOf s.e1 hs
      refine .inl ⟨_, ds.length, rfl, ?_, q F r H _ .refl s (px_val (.int _))⟩
      rcases h1 with h1 | h1
      · exact .inl ⟨vs, h1, h2.length⟩
      · exact .inr ⟨vs, h1, h2.length⟩
    · split at h
      · rename_i i _ _
        split at h
        · rename_i kvs ho
          cases h
          obtain ⟨a, rfl, ⟨vs, h1, h2⟩, _⟩ := bx.rf s.e1 ho
          exact .inr ⟨a, vs, rfl, h1, by rw [← h2.length]; exact q F r H _ .refl s (px_val (.int _))⟩
        · cases h
      · cases h
theorem snd_len (c : Good X W g q) {e : Expr} {oe : Op} {p pos : Pos} (hg : GlQ q "len") (hm : g.mg "len" = none) (he : PE X e (tOp1 g W oe)) (hs : starEach [e] X.env = [(false, eval e X.env)] := by rfl) : PE X (.Call (.Name "len" p) [e] [] pos) (tX g W (mUn bLen oe)) :=
  snd_f1 c (rr := rLenA g.K) (by rw [← c.K]; exact CallR.or call_len call_lenD) prim_len hg hm rfl he (by decide) (by decide) hs
theorem prim_abs : Prim1 g (PX g) bAbs (fun x H Q => ∃ i, [x] = [V.int i] ∧ Q (.int (if i < 0 then -i else i)) H) := by
  intro B F r f S σ H d x res Q s bx h q
  unfold bAbs at h
  split at h
  · cases h
    exact ⟨_, by rw [bx.int], q F r H _ .refl s (px_val (.int _))⟩
  · cases h
theorem snd_abs (c : Good X W g q) {e : Expr} {oe : Op} {p pos : Pos} (hg : GlQ q "abs") (hm : g.mg "abs" = none) (he : PE X e (tOp1 g W oe)) (hs : starEach [e] X.env = [(false, eval e X.env)] := by rfl) : PE X (.Call (.Name "abs" p) [e] [] pos) (tX g W (mUn bAbs oe)) :=
  snd_f1 c call_abs prim_abs hg hm rfl he (by decide) (by decide) hs
def rIntA : List V → Hp → VK → Prop := fun xs H Q => ((∃ i, xs = [V.int i] ∧ Q (.int i) H) ∨ ∃ k, xs = [V.bl k] ∧ Q (.int (if k then 1 else 0)) H) ∨ (∃ a n, xs = [V.str a] ∧ PySem.intText? a = some n ∧ a.length ≤ 640 ∧ Q (.int n) H)
theorem prim_int : Prim1 g (PX g) bInt (fun x H Q => rIntA [x] H Q) := by
  intro B F r f S σ H d x res Q s bx h q
  unfold bInt at h
  split at h
  · cases h
    exact .inl (.inl ⟨_, by rw [bx.int], q F r H _ .refl s (px_val (.int _))⟩)
  · cases h
    exact .inl (.inr ⟨_, by rw [bx.bl], q F r H _ .refl s (px_val (.int _))⟩)
  · rename_i z
    split at h
    · rename_i hl
      cases e : PySem.intText? (toStr z) with
      | none => rw [e] at h; cases h
      | some n =>
        rw [e] at h
        cases h
        exact .inr ⟨_, n, by rw [bx.str], e, by rw [toStr_len]; exact hl, q F r H _ .refl s (px_val (.int _))⟩
    · cases h
  · cases h
theorem snd_toint (c : Good X W g q) {e : Expr} {oe : Op} {p pos : Pos} (hg : GlQ q "int") (hm : g.mg "int" = none) (he : PE X e (tOp1 g W oe)) (hs : starEach [e] X.env = [(false, eval e X.env)] := by rfl) : PE X (.Call (.Name "int" p) [e] [] pos) (tX g W (mUn bInt oe)) :=
  snd_t1 c (rr := rIntA) (CallR.or call_int1 call_int_str) prim_int hg hm rfl he (by decide) (by decide) hs
def rStrA : List V → Hp → VK → Prop := fun xs H Q => (∃ i, xs = [V.int i] ∧ i.natAbs.log2 < 1920 ∧ Q (.str (toString i)) H) ∨ (∃ a, xs = [V.str a] ∧ Q (.str a) H)
theorem prim_str : Prim1 g (PX g) bStr (fun x H Q => rStrA [x] H Q) := by
  intro B F r f S σ H d x res Q s bx h q
  unfold bStr at h
  split at h
  · rename_i i
    split at h
    · rename_i hl
      cases h
      refine .inl ⟨i, by rw [bx.int], hl, ?_⟩
      have e := q F r H _ .refl s (px_val (.str _))
      rw [toStr_mk] at e
      exact e
    · cases h
  · cases h
    exact .inr ⟨_, by rw [bx.str], q F r H _ .refl s (px_val (.str _))⟩
  · cases h
theorem snd_tostr (c : Good X W g q) {e : Expr} {oe : Op} {p pos : Pos} (hg : GlQ q "str") (hm : g.mg "str" = none) (he : PE X e (tOp1 g W oe)) (hs : starEach [e] X.env = [(false, eval e X.env)] := by rfl) : PE X (.Call (.Name "str" p) [e] [] pos) (tX g W (mUn bStr oe)) :=
  snd_t1 c (rr := rStrA) (CallR.or call_str_int SkE.call_str_str) prim_str hg hm rfl he (by decide) (by decide) hs
theorem prim_ord : Prim1 g (PX g) bOrd (fun x H Q => ∃ z, [x] = [V.str z] ∧ z.length = 1 ∧ Q (.int (z.cps.getD 0 0 : Nat)) H) := by
  intro B F r f S σ H d x res Q s bx h q
  unfold bOrd at h
  split at h
  · rename_i k
    cases h
    exact ⟨_, by rw [bx.str], toStr_len _, q F r H _ .refl s (px_val (.int _))⟩
  · cases h
theorem snd_ord (c : Good X W g q) {e : Expr} {oe : Op} {p pos : Pos} (hg : GlQ q "ord") (hm : g.mg "ord" = none) (he : PE X e (tOp1 g W oe)) (hs : starEach [e] X.env = [(false, eval e X.env)] := by rfl) : PE X (.Call (.Name "ord" p) [e] [] pos) (tX g W (mUn bOrd oe)) :=
  snd_f1 c call_ord prim_ord hg hm rfl he (by decide) (by decide) hs
/-! ### sum, all, any -/
theorem RepL.ofInts : ∀ {ds : List D} {vs : List V} {ns : List Int}, RepL g.K F r ds vs → allI ds = some ns → vs = ns.map V.int
  | [], _, ns, .nil, h => by cases h; rfl
  | d :: ds, _, ns, .cons h1 h2, h => by
    cases d with
    | int i =>
      unfold allI at h
      cases e : allI ds with
      | none => rw [e] at h; cases h
      | some ms =>
        rw [e] at h
        cases h
        cases h1
        rw [RepL.ofInts h2 e]
        rfl
    | _ => cases h
theorem RepL.ofBls : ∀ {ds : List D} {vs : List V} {ns : List Bool}, RepL g.K F r ds vs → allB ds = some ns → vs = ns.map V.bl
  | [], _, ns, .nil, h => by cases h; rfl
  | d :: ds, _, ns, .cons h1 h2, h => by
    cases d with
    | bl i =>
      unfold allB at h
      cases e : allB ds with
      | none => rw [e] at h; cases h
      | some ms =>
        rw [e] at h
        cases h
        cases h1
        rw [RepL.ofBls h2 e]
        rfl
    | _ => cases h
theorem RepL.ofStrs : ∀ {ds : List D} {vs : List V} {ns : List Tx}, RepL g.K F r ds vs → allS ds = some ns → vs = ns.map fun x => V.str (toStr x)
  | [], _, ns, .nil, h => by cases h; rfl
  | d :: ds, _, ns, .cons h1 h2, h => by
    cases d with
    | str i =>
      unfold allS at h
      cases e : allS ds with
      | none => rw [e] at h; cases h
      | some ms =>
        rw [e] at h
        cases h
        cases h1
        rw [RepL.ofStrs h2 e]
        rfl
    | _ => cases h
theorem prim_sum : Prim1 g (PX g) bSum (fun x H Q => rSum g.K [x] H Q) := by
  intro B F r f S σ H d x res Q s bx h q
  unfold bSum at h
  cases e : lsqOf S d with
  | none => rw [e] at h; cases h
  | some ds =>
    rw [e] at h
    cases e2 : allI ds with
    | none => rw [show (some ds).bind allI = allI ds from rfl, e2] at h; cases h
    | some ns =>
      rw [show (some ds).bind allI = allI ds from rfl, e2] at h
      cases h
      obtain ⟨a, vs, rfl, h1, h2⟩ := bx.lsqOf s.e1 e
      exact ⟨a, ns, rfl, by rw [← h2.ofInts e2]; exact h1, q F r H _ .refl s (px_val (.int _))⟩
theorem snd_sum (c : Good X W g q) {e : Expr} {oe : Op} {p pos : Pos} (hg : GlQ q "sum") (hm : g.mg "sum" = none) (he : PE X e (tOp1 g W oe)) (hs : starEach [e] X.env = [(false, eval e X.env)] := by rfl) : PE X (.Call (.Name "sum" p) [e] [] pos) (tX g W (mUn bSum oe)) :=
  snd_f1 c (by rw [← c.K]; exact cr_sum c.calm) prim_sum hg hm rfl he (by decide) (by decide) hs
theorem prim_all : Prim1 g (PX g) bAll (fun x H Q => rAll g.K [x] H Q) := by
  intro B F r f S σ H d x res Q s bx h q
  unfold bAll at h
  cases e : lsqOf S d with
  | none => rw [e] at h; cases h
  | some ds =>
    rw [e] at h
    cases e2 : allB ds with
    | none => rw [show (some ds).bind allB = allB ds from rfl, e2] at h; cases h
    | some ns =>
      rw [show (some ds).bind allB = allB ds from rfl, e2] at h
      cases h
      obtain ⟨a, vs, rfl, h1, h2⟩ := bx.lsqOf s.e1 e
      exact ⟨a, ns, rfl, by rw [← h2.ofBls e2]; exact h1, q F r H _ .refl s (px_val (.bl _))⟩
theorem snd_all (c : Good X W g q) {e : Expr} {oe : Op} {p pos : Pos} (hg : GlQ q "all") (hm : g.mg "all" = none) (he : PE X e (tOp1 g W oe)) (hs : starEach [e] X.env = [(false, eval e X.env)] := by rfl) : PE X (.Call (.Name "all" p) [e] [] pos) (tX g W (mUn bAll oe)) :=
  snd_f1 c (by rw [← c.K]; exact cr_all c.calm) prim_all hg hm rfl he (by decide) (by decide) hs
theorem prim_any : Prim1 g (PX g) bAny (fun x H Q => rAny g.K [x] H Q) := by
  intro B F r f S σ H d x res Q s bx h q
  unfold bAny at h
  cases e : lsqOf S d with
  | none => rw [e] at h; cases h
  | some ds =>
    rw [e] at h
    cases e2 : allB ds with
    | none => rw [show (some ds).bind allB = allB ds from rfl, e2] at h; cases h
    | some ns =>
      rw [show (some ds).bind allB = allB ds from rfl, e2] at h
      cases h
      obtain ⟨a, vs, rfl, h1, h2⟩ := bx.lsqOf s.e1 e
      exact ⟨a, ns, rfl, by rw [← h2.ofBls e2]; exact h1, q F r H _ .refl s (px_val (.bl _))⟩
theorem snd_any (c : Good X W g q) {e : Expr} {oe : Op} {p pos : Pos} (hg : GlQ q "any") (hm : g.mg "any" = none) (he : PE X e (tOp1 g W oe)) (hs : starEach [e] X.env = [(false, eval e X.env)] := by rfl) : PE X (.Call (.Name "any" p) [e] [] pos) (tX g W (mUn bAny oe)) :=
  snd_f1 c (by rw [← c.K]; exact cr_any c.calm) prim_any hg hm rfl he (by decide) (by decide) hs
/-! ### list, tuple -/
theorem RepK.keys : ∀ {kvs : List (Ky × D)} {vs : List (Key × V)}, RepK g.K F r kvs vs → RepL g.K F r (kvs.map fun kv => kyD kv.1) (vs.map fun kv => kV kv.1)
  | _, _, .nil => .nil
  | (k, d) :: _, _, .cons _ q => by
    refine .cons ?_ (RepK.keys q)
    cases k with
    | i n => exact .int n
    | s x => exact .str x
def rListA (K : PySem.W.Frag) : List V → Hp → VK → Prop := fun xs H Q => (∃ p ys, xs = [V.ref p] ∧ (SqL K H p ys ∨ SqT K H p ys) ∧ ∀ l, H l = none → Q (.ref l) (upd H l (.lst ys))) ∨
  (∃ (a : Addr) (kvs : List (Key × V)), xs = [.ref a] ∧ Rd H a (.dK kvs) ∧ ∀ p, H p = none → Q (.ref p) (upd H p (.lst (kvs.map fun kv => kV kv.1))))
theorem prim_list : Prim1 g (PX g) bList (fun x H Q => rListA g.K [x] H Q) := by
  intro B F r f S σ H d x res Q s bx h q
  unfold bList at h
  split at h
  · rename_i kvs hk
    cases h
    obtain ⟨a, vs, rfl, h1, h2⟩ := bx.dctOf s.e1 hk
    refine .inr ⟨a, vs, rfl, h1, fun p hp => ?_⟩
    obtain ⟨s', n⟩ := s.newL hp h2.keys
    exact q F r _ _ .refl s' (px_new n)
  · cases hs : seqOf S d with
    | none => rw [hs] at h; cases h
    | some ds =>
      rw [hs] at h
      cases h
      obtain ⟨a, vs, rfl, h1, h2⟩ := bx.seqOf s.e1 hs
      refine .inl ⟨a, vs, rfl, h1, fun p hp => ?_⟩
      obtain ⟨s', n⟩ := s.newL hp h2
      exact q F r _ _ .refl s' (px_new n)
theorem snd_list (c : Good X W g q) {e : Expr} {oe : Op} {p pos : Pos} (hg : GlQ q "list") (hm : g.mg "list" = none) (he : PE X e (tOp1 g W oe)) (hs : starEach [e] X.env = [(false, eval e X.env)] := by rfl) : PE X (.Call (.Name "list" p) [e] [] pos) (tX g W (mUn bList oe)) :=
  snd_t1 c (rr := rListA g.K) (by rw [← c.K]; exact CallR.or call_list_of (call_listD c.calm)) prim_list hg hm rfl he (by decide) (by decide) hs
def rTupA (K : PySem.W.Frag) : List V → Hp → VK → Prop := fun xs H Q => ∃ p ys, xs = [V.ref p] ∧ ((SqL K H p ys ∧ ∀ l, H l = none → Q (.ref l) (upd H l (.tup ys))) ∨ (SqT K H p ys ∧ Q (.ref p) H))
theorem prim_tuple : Prim1 g (PX g) bTuple (fun x H Q => rTupA g.K [x] H Q) := by
  intro B F r f S σ H d x res Q s bx h q
  unfold bTuple at h
  cases hs : seqOf S d with
  | none => rw [hs] at h; cases h
  | some ds =>
    rw [hs] at h
    cases h
    have tup : ∀ {es : List D}, d = .tup es → ∃ p ys, [x] = [V.ref p] ∧ ((SqL g.K H p ys ∧ ∀ l, H l = none → Q (.ref l) (upd H l (.tup ys))) ∨ (SqT g.K H p ys ∧ Q (.ref p) H)) := fun {es} e => by
      subst e
      cases hs
      obtain ⟨a, vs, e1, h1, h2⟩ := bx.tup s.e1
      refine ⟨a, vs, by rw [e1], .inr ⟨h1, ?_⟩⟩
      rw [← e1]
      exact q F r H _ .refl s (px_val bx.rep_tup)
    have lst : lsqOf S d = some ds → ∃ p ys, [x] = [V.ref p] ∧ ((SqL g.K H p ys ∧ ∀ l, H l = none → Q (.ref l) (upd H l (.tup ys))) ∨ (SqT g.K H p ys ∧ Q (.ref p) H)) := fun e => by
      obtain ⟨a, vs, e1, h1, h2⟩ := bx.lsqOf s.e1 e
      refine ⟨a, vs, by rw [e1], .inl ⟨h1, fun l hl => ?_⟩⟩
      obtain ⟨F', le, s', rp⟩ := s.newT hl h2
      exact q F' r _ _ le s' (px_val rp)
    cases d with
    | tup es => exact tup rfl
    | lst es => exact lst hs
    | scr es => exact lst hs
    | ref i => exact lst hs
    | _ => cases hs
theorem snd_tuple (c : Good X W g q) {e : Expr} {oe : Op} {p pos : Pos} (hg : GlQ q "tuple") (hm : g.mg "tuple" = none) (he : PE X e (tOp1 g W oe)) (hs : starEach [e] X.env = [(false, eval e X.env)] := by rfl) : PE X (.Call (.Name "tuple" p) [e] [] pos) (tX g W (mUn bTuple oe)) :=
  snd_t1 c (rr := rTupA g.K) (by rw [← c.K]; exact call_tuple_of) prim_tuple hg hm rfl he (by decide) (by decide) hs
/-! ### dict -/
theorem RepK.anyk {kvs : List (Ky × D)} {vs : List (Key × V)} (h : RepK g.K F r kvs vs) (k : Ky) : (vs.any fun kv => decide (kv.1 = kyK k)) = (kvs.any fun kv => decide (kv.1 = k)) := by
  cases h with
  | nil => rfl
  | @cons k' d v ds vs h q =>
    rw [List.any_cons, List.any_cons, RepK.anyk q k]
    congr 1
    exact kyK_dec k' k
theorem RepK.putm {kvs : List (Ky × D)} {vs : List (Key × V)} (h : RepK g.K F r kvs vs) (k : Ky) {d : D} {v : V} (hv : RepV g.K F r d v) : RepK g.K F r (kvs.map fun kv => if kv.1 = k then (kv.1, d) else kv) (vs.map fun kv => if kv.1 = kyK k then (kv.1, v) else kv) := by
  cases h with
  | nil => exact .nil
  | @cons k' d' v' ds vs h q =>
    rw [List.map_cons, List.map_cons]
    by_cases e : k' = k
    · subst e
      rw [if_pos rfl, if_pos rfl]
      exact .cons hv (RepK.putm q _ hv)
    · rw [if_neg e, if_neg (fun z => e (kyK_inj z))]
      exact .cons h (RepK.putm q _ hv)
theorem RepK.snoc {kvs : List (Ky × D)} {vs : List (Key × V)} (h : RepK g.K F r kvs vs) (k : Ky) {d : D} {v : V} (hv : RepV g.K F r d v) : RepK g.K F r (kvs ++ [(k, d)]) (vs ++ [(kyK k, v)]) := by
  cases h with
  | nil => exact .cons hv .nil
  | @cons k' d' v' ds vs h q => exact .cons h (RepK.snoc q k hv)
theorem RepK.put {kvs : List (Ky × D)} {vs : List (Key × V)} (h : RepK g.K F r kvs vs) (k : Ky) {d : D} {v : V} (hv : RepV g.K F r d v) : RepK g.K F r (putKy kvs k d) (putK vs (kyK k) v) := by
  unfold putKy putK
  rw [h.anyk]
  split
  · exact h.putm k hv
  · exact h.snoc k hv
theorem RepK.merge {more : List (Ky × D)} {ms : List (Key × V)} {kvs : List (Ky × D)} {vs : List (Key × V)} (h : RepK g.K F r kvs vs) (m : RepK g.K F r more ms) : RepK g.K F r (mergeKy kvs more) (mergeK vs ms) := by
  cases m with
  | nil => exact h
  | cons hv q =>
    unfold mergeKy mergeK
    rw [List.foldl_cons, List.foldl_cons]
    exact RepK.merge (h.put _ hv) q
termination_by more.length
theorem pairs_rep (s : SR g B F r f S σ H) : ∀ {ds : List D} {vs : List V} {kvs : List (Ky × D)}, RepL g.K F r ds vs → pairs ds = some kvs → ∃ (ps : List Addr) (ks : List (Key × V)), vs = ps.map V.ref ∧ Paired (fun p kv => SqT g.K H p [kV kv.1, kv.2]) ps ks ∧ RepK g.K F r kvs ks
  | [], _, kvs, .nil, h => by cases h; exact ⟨[], [], rfl, .nil, .nil⟩
  | d :: ds, _, kvs, .cons h1 h2, h => by
    unfold pairs at h
    split at h
    · rename_i e
      cases e
    · rename_i k v ds' e
      cases e
      split at h
      · rename_i k' r' e1 e2
        cases h
        obtain ⟨ps, ks, rfl, z1, z2⟩ := pairs_rep s h2 e2
        cases h1 with
        | @tup a ws ds'' hs hr =>
          cases hr with
          | @cons _ wk _ wks hk hr2 =>
            cases hr2 with
            | @cons _ wv _ _ hv hr3 =>
              cases hr3
              refine ⟨a :: ps, (kyK k', wv) :: ks, rfl, .cons ?_ z1, .cons hv z2⟩
              have ek : wk = kV (kyK k') := asKy_V (H := H) (.inl hk) e1
              rw [← ek]
              exact s.e1.tupl hs
      · cases h
    · cases h
def rDictA (K : PySem.W.Frag) : List V → Hp → VK → Prop := fun xs H Q => (∃ (a : Addr) (kvs : List (Key × V)), xs = [.ref a] ∧ Rd H a (.dK kvs) ∧ ∀ p, H p = none → Q (.ref p) (upd H p (.dK kvs))) ∨
  (∃ (a : Addr) (ps : List Addr) (kvs : List (Key × V)), xs = [.ref a] ∧ SqL K H a (ps.map V.ref) ∧ Paired (fun p kv => SqT K H p [kV kv.1, kv.2]) ps kvs ∧ ∀ p, H p = none → Q (.ref p) (upd H p (.dK (mergeK [] kvs))))
theorem prim_dict : Prim1 g (PX g) bDict (fun x H Q => rDictA g.K [x] H Q) := by
  intro B F r f S σ H d x res Q s bx h q
  unfold bDict at h
  split at h
  · rename_i kvs hk
    cases h
    obtain ⟨a, vs, rfl, h1, h2⟩ := bx.dctOf s.e1 hk
    refine .inl ⟨a, vs, rfl, h1, fun p hp => ?_⟩
    obtain ⟨s', n⟩ := s.newK hp h2
    exact q F r _ _ .refl s' (px_new n)
  · cases hs : lsqOf S d with
    | none => rw [hs] at h; cases h
    | some ds =>
      rw [hs] at h
      cases e2 : pairs ds with
      | none => rw [show (some ds).bind pairs = pairs ds from rfl, e2] at h; cases h
      | some kvs =>
        rw [show (some ds).bind pairs = pairs ds from rfl, e2] at h
        cases h
        obtain ⟨a, vs, rfl, h1, h2⟩ := bx.lsqOf s.e1 hs
        obtain ⟨ps, ks, rfl, z1, z2⟩ := pairs_rep s h2 e2
        refine .inr ⟨a, ps, ks, rfl, h1, z1, fun p hp => ?_⟩
        obtain ⟨s', n⟩ := s.newK hp (RepK.merge .nil z2)
        exact q F r _ _ .refl s' (px_new n)
theorem snd_dict (c : Good X W g q) {e : Expr} {oe : Op} {p pos : Pos} (hg : GlQ q "dict") (hm : g.mg "dict" = none) (he : PE X e (tOp1 g W oe)) (hs : starEach [e] X.env = [(false, eval e X.env)] := by rfl) : PE X (.Call (.Name "dict" p) [e] [] pos) (tX g W (mUn bDict oe)) :=
  snd_t1 c (rr := rDictA g.K) (by rw [← c.K]; exact CallR.or call_dictD (call_dictP c.calm)) prim_dict hg hm rfl he (by decide) (by decide) hs
/-! ### isinstance -/
def tyNames : List String := ["NoneType", "bool", "int", "str", "tuple", "list", "dict"]
theorem kitB_ok : ∀ a ∈ tyNames, ∀ b ∈ tyNames, kitB a b = some (isTy a b) := by decide +kernel
theorem kitAny_ok {K : PySem.W.Frag} {a : String} (ha : a ∈ tyNames) : ∀ ts : List String, ts.all okTy = true → PySem.W.kitAny K (.type a) (ts.map Value.type) = some (ts.any fun t => isTy a t)
  | [], _ => kitAny_nil
  | t :: ts, h => by
    rw [List.all_cons, Bool.and_eq_true] at h
    have ht : t ∈ tyNames := by
      have := h.1
      unfold okTy at this
      simpa [tyNames] using this
    have h1 := kit_ty (K := K) (kitB_ok a ha t ht)
    rw [List.map_cons]
    refine kitAny_cons (b := isTy a t) h1 (fun e => ?_) (fun e => ?_)
    · rw [List.any_cons, e, Bool.false_or]; exact kitAny_ok ha ts h.2
    · rw [List.any_cons, e, Bool.true_or]
theorem tyName_mem (S : Store) (d : D) : tyName S d ∈ tyNames := by
  cases d <;> simp [tyName, tyNames]
  split <;> simp
theorem TyX.of (s : SR g B F r f S σ H) {d : D} {v : V} (h : BV g F r H d v) (ht : there S d = true) : TyX g.K H v (.type (tyName S d)) := by
  have lst : ∀ {ds : List D}, lstOf S d = some ds → TyX g.K H v (.type "list") := fun {ds} e => by
    obtain ⟨a, vs, rfl, h1, _⟩ := h.lstOf s.e1 e
    exact .base (.lst h1)
  have dct : ∀ {ds : List (Ky × D)}, dctOf S d = some ds → TyX g.K H v (.type "dict") := fun {ds} e => by
    obtain ⟨a, vs, rfl, h1, _⟩ := h.dctOf s.e1 e
    rcases h1 with h1 | ⟨o, h1⟩
    · exact .base (.dK h1)
    · exact .fDict h1
  cases d with
  | non => rw [h.non]; exact .base .non
  | bl b => rw [h.bl]; exact .base (.bl b)
  | int i => rw [h.int]; exact .base (.int i)
  | str x => rw [h.str]; exact .base (.str _)
  | tup ds =>
    obtain ⟨a, vs, rfl, h1, _⟩ := h.tup s.e1
    rcases h1 with (h1 | ⟨o, h1⟩) | ⟨o, its, n, h1, h2, _⟩
    · exact .base (.tup h1)
    · exact .fTuple h1
    · exact .kTuple h1 h2
  | lst ds => exact lst rfl
  | dct kvs => exact dct rfl
  | scr ns =>
    obtain ⟨a, rfl, h1⟩ := h.scr s.e1
    rcases h1 with (h1 | ⟨o, h1⟩) | ⟨o, its, n, h1, h2, _⟩
    · exact .base (.lst h1)
    · exact .base (.frz h1)
    · exact .kList h1 h2
  | ref i =>
    cases e : S[i]? with
    | none => exact absurd (show (S[i]?).isSome = true from ht) (by rw [e]; decide)
    | some o =>
      unfold tyName
      dsimp only
      rw [e]
      cases o with
      | lst ds => exact lst (ds := ds) (by unfold lstOf; dsimp only; rw [e])
      | dct ds => exact dct (ds := ds) (by unfold dctOf; dsimp only; rw [e])
theorem prim_is1 {t : String} : Prim1 g (PX g) (bIs [t]) (fun x H Q => rIsi g.K [x, .ty t] H Q) := by
  intro B F r f S σ H d x res Q s bx h q
  unfold bIs at h
  split at h
  · rename_i hk
    cases h
    rw [Bool.and_eq_true] at hk
    have z := kitAny_ok (K := g.K) (tyName_mem S d) [t] hk.2
    refine ⟨x, .ty t, .type (tyName S d), .type t, _, rfl, .ty t, TyX.of s bx hk.1, ?_, q F r H _ .refl s (px_val (.bl _))⟩
    have ht : t ∈ tyNames := by
      have := hk.2
      rw [List.all_cons, Bool.and_eq_true] at this
      have := this.1
      unfold okTy at this
      simpa [tyNames] using this
    rw [List.any_cons, List.any_nil, Bool.or_false]
    exact kit_ty (kitB_ok _ (tyName_mem S d) t ht)
  · cases h
/-- isinstance(e, T) -/
theorem snd_is1 (c : Good X W g q) {e : Expr} {oe : Op} {t : Str} {n : String} {p p2 pos : Pos} (hg : GlQ q "isinstance") (hm : g.mg "isinstance" = none) (hg2 : GlQ q t) (hm2 : g.mg t = none) (hv : bootBuiltins t = some (.type n)) (he : PE X e (tOp1 g W oe))
    (hn : t ≠ "__name__" := by decide) (hdb : (t == ("__debug__" : Str)) = false := by decide) (hs : starEach [e, .Name t p2] X.env = (false, eval e X.env) :: starEach [.Name t p2] X.env := by rfl) : PE X (.Call (.Name "isinstance" p) [e, .Name t p2] [] pos) (tX g W (mUn (bIs [n]) oe)) :=
  PE.imp (pe_callB call_isi (by unfold Gl Env.kindOf; rw [c.sc]; exact hg) (by rw [c.mg]; exact hm) rfl (pa_cons he (pa_cons (pe_bltn (v := .ty n) (by unfold Gl Env.kindOf; rw [c.sc]; exact hg2) (by rw [c.mg]; exact hm2) hv rfl hn hdb) pa_nil rfl) hs) (by decide) (by decide) hs rfl) fun σ H Q z => by
    rw [c.K]
    exact mUn_run prim_is1 z
/-- names of types -/
inductive TyEs (q : Qc) (mg : Str → Option Value) : List Expr → List String → Prop
  | nil : TyEs q mg [] []
  | cons {t : Str} {n : String} {p : Pos} {es : List Expr} {ns : List String} : GlQ q t → mg t = none → bootBuiltins t = some (.type n) → t ≠ "__name__" → (t == ("__debug__" : Str)) = false → TyEs q mg es ns → TyEs q mg (.Name t p :: es) (n :: ns)
def tTys : List String → TA
  | [] => tNil
  | n :: ns => tCons (tC (.ty n)) (tTys ns)
theorem TyEs.pa (c : Good X W g q) {es : List Expr} {ns : List String} (h : TyEs q g.mg es ns) : PA X es (tTys ns) := by
  induction h with
  | nil => exact pa_nil
  | @cons t n p es ns h1 h2 h3 h4 h5 h6 ih => exact pa_cons (pe_bltn (v := .ty n) (by unfold Gl Env.kindOf; rw [c.sc]; exact h1) (by rw [c.mg]; exact h2) h3 rfl h4 h5) ih rfl
theorem tTys_run : ∀ {ns : List String} {H : Hp} {Q : List V → Hp → Prop}, Q (ns.map V.ty) H → tTys ns σ H Q
  | [], _, _, q => q
  | n :: ns, H, Q, q => tTys_run (ns := ns) q
theorem clsv_all : ∀ ns : List String, Paired ClsV (ns.map V.ty) (ns.map Value.type)
  | [] => .nil
  | n :: ns => .cons (.ty n) (clsv_all ns)
/-- isinstance(e, (T, ..)) -/
theorem snd_isT (c : Good X W g q) {e : Expr} {oe : Op} {es : List Expr} {ns : List String} {p p2 pos : Pos} {x1} (hg : GlQ q "isinstance") (hm : g.mg "isinstance" = none) (ht : TyEs q g.mg es ns) (hl : ns.length ≤ LIM) (he : PE X e (tOp1 g W oe))
    (hs : starEach [e, .Tuple es x1 p2] X.env = (false, eval e X.env) :: starEach [.Tuple es x1 p2] X.env := by rfl) : PE X (.Call (.Name "isinstance" p) [e, .Tuple es x1 p2] [] pos) (tX g W (mUn (bIs ns) oe)) :=
  PE.imp (pe_callB call_isiT (by unfold Gl Env.kindOf; rw [c.sc]; exact hg) (by rw [c.mg]; exact hm) rfl (pa_cons he (pa_cons (pe_tup (ht.pa c)) pa_nil rfl) hs) (by decide) (by decide) hs rfl) fun σ H Q z => by
    rw [c.K]
    have z : tM g W (PX g) (mUn (bIs ns) oe) σ H Q := z
    obtain ⟨B, F, r, f, S, s, z⟩ := z
    refine tOp1.mono (opE_then s z) fun v H1 ⟨x, F1, r1, f1, S1, l1, s1, px, q1⟩ => ?_
    refine tTys_run ⟨by rw [lim_eq, List.length_map]; exact hl, fun tp htp => ?_⟩
    have s2 := s1.alloc htp (.tup (ns.map V.ty))
    refine at1_run (rr := fun v H Q => H tp = some (.tup (ns.map V.ty)) → rIsiT g.K [v, .ref tp] H Q) ?_ s2 px q1 upd_same
    intro B F r f S σ H d x res Q s bx h q hH
    unfold bIs at h
    split at h
    · rename_i hk
      cases h
      rw [Bool.and_eq_true] at hk
      exact ⟨x, tp, ns.map V.ty, .type (tyName S d), ns.map Value.type, _, rfl, hH, clsv_all ns, TyX.of s bx hk.1, kitAny_ok (tyName_mem S d) ns hk.2, q F r H _ .refl s (px_val (.bl _))⟩
    · cases h
end
end Mi
set_option Elab.async false
set_option linter.all false
set_option maxRecDepth 100000
/-! Mi, part 11: statements. -/
namespace Mi
open PySem PySem.Spec L2
/-- what is wanted of a statement's end -/
def RunS (g : G) (W : WX) (B : Bs) (F : Hp) (r : List Addr) (res : RS) (E : Ends) : Prop := match res with
  | .nx f S => ∀ F' r' σ H', Le F r F' r' → SR g B F' r' f S σ H' → E.nx σ H'
  | .bk f S => ∀ F' r' σ H', Le F r F' r' → SR g B F' r' f S σ H' → E.bk σ H'
  | .ct f S => ∀ F' r' σ H', Le F r F' r' → SR g B F' r' f S σ H' → E.ct σ H'
  | .rt d fr f S => ∀ F' r' σ H' v, Le F r F' r' → SR g B F' r' f S σ H' → RXc g B F' r' H' d fr v → E.rt v H'
  | .exc c fs f S => ∀ F' r' σ H' dd vs, Le F r F' r' → SR g B F' r' f S σ H' → H' dd = some (.xd vs) → RepF g.K F' r' fs vs → W (.ref (g.cls c)) (some dd) σ H'
  | .bad => False
def tS (g : G) (W : WX) (m : MS) : TS := fun E σ H => ∃ B F r f S, SR g B F r f S σ H ∧ RunS g W B F r (m g.cx f S) E
section
variable {X : Cx} {g : G} {W : WX} {q : Qc} {B : Bs} {F F' H H' : Hp} {r r' : List Addr} {σ : L2.St} {f : Fr} {S : Store} {E E' : Ends}
theorem RunS.le {res : RS} (h : RunS g W B F r res E) (l : Le F r F' r') : RunS g W B F' r' res E := by
  cases res with
  | nx f S => exact fun F2 r2 σ H2 l2 => h F2 r2 σ H2 (l.trans l2)
  | bk f S => exact fun F2 r2 σ H2 l2 => h F2 r2 σ H2 (l.trans l2)
  | ct f S => exact fun F2 r2 σ H2 l2 => h F2 r2 σ H2 (l.trans l2)
  | rt d fr f S => exact fun F2 r2 σ H2 v l2 => h F2 r2 σ H2 v (l.trans l2)
  | exc c fs f S => exact fun F2 r2 σ H2 dd vs l2 => h F2 r2 σ H2 dd vs (l.trans l2)
  | bad => exact h
theorem RunS.mono {res : RS} (h : RunS g W B F r res E) (h1 : ∀ σ H, E.nx σ H → E'.nx σ H) (h2 : ∀ v H, E.rt v H → E'.rt v H) (h3 : ∀ σ H, E.bk σ H → E'.bk σ H) (h4 : ∀ σ H, E.ct σ H → E'.ct σ H) : RunS g W B F r res E' := by
  cases res with
  | nx f S => exact fun F2 r2 σ H2 l2 s => h1 _ _ (h F2 r2 σ H2 l2 s)
  | bk f S => exact fun F2 r2 σ H2 l2 s => h3 _ _ (h F2 r2 σ H2 l2 s)
  | ct f S => exact fun F2 r2 σ H2 l2 s => h4 _ _ (h F2 r2 σ H2 l2 s)
  | rt d fr f S => exact fun F2 r2 σ H2 v l2 s p => h2 _ _ (h F2 r2 σ H2 v l2 s p)
  | exc c fs f S => exact h
  | bad => exact h
theorem RunS.nx (h : RunS g W B F r (.nx f S) E) (s : SR g B F r f S σ H) : E.nx σ H := h F r σ H .refl s
theorem tS.of {m : MS} (s : SR g B F r f S σ H) (h : RunS g W B F r (m g.cx f S) E) : tS g W m E σ H := ⟨B, F, r, f, S, s, h⟩
/-- a statement behind an evaluation -/
theorem Run.thenS {α β : Type} {P : Bs → Hp → List Addr → Fr → L2.St → Hp → α → β → Prop} {m : R α} {k : α → Fr → Store → RS} (h : RunS g W B F r (m.thenS k) E) :
    Run g W P B F r σ m fun v H1 => ∃ a F' r' f S, Le F r F' r' ∧ SR g B F' r' f S σ H1 ∧ P B F' r' f σ H1 a v ∧ RunS g W B F' r' (k a f S) E := by
  cases m with
  | ok a f S => exact fun F2 r2 H2 v l2 s p => ⟨a, F2, r2, f, S, l2, s, p, RunS.le h l2⟩
  | exc c fs f S => exact fun F2 r2 H2 dd vs l2 s => h F2 r2 σ H2 dd vs l2 s
  | bad => exact h
theorem tS_then {α β : Type} {P : Bs → Hp → List Addr → Fr → L2.St → Hp → α → β → Prop} {m : M α} {k : α → Fr → Store → RS} (s : SR g B F r f S σ H) (h : RunS g W B F r ((m g.cx f S).thenS k) E) :
    tM g W P m σ H fun v H1 => ∃ a F' r' f S, Le F r F' r' ∧ SR g B F' r' f S σ H1 ∧ P B F' r' f σ H1 a v ∧ RunS g W B F' r' (k a f S) E := tM.of s (Run.thenS h)
theorem RunS.seq {res : RS} {k : Fr → Store → RS} (h : RunS g W B F r (res.seq k) E) : RunS g W B F r res { E with nx := fun σ H => ∃ F' r' f S, Le F r F' r' ∧ SR g B F' r' f S σ H ∧ RunS g W B F' r' (k f S) E } := by
  cases res with
  | nx f S => exact fun F2 r2 σ H2 l2 s => ⟨F2, r2, f, S, l2, s, RunS.le h l2⟩
  | bk f S => exact h
  | ct f S => exact h
  | rt d fr f S => exact h
  | exc c fs f S => exact h
  | bad => exact h
/-! ### rules -/
theorem snd_nils : PSs X [] (tS g W sNx) := PSs.imp pss_nil fun D σ H ⟨B, F, r, f, S, s, h⟩ => RunS.nx h s
theorem snd_seq {st : Stmt} {rest : List Stmt} {m n : MS} (h1 : PS X st (tS g W m)) (h2 : PSs X rest (tS g W n)) : PSs X (st :: rest) (tS g W (sSeq m n)) :=
  PSs.imp (pss_cons h1 h2) fun D σ H ⟨B, F, r, f, S, s, h⟩ => ⟨B, F, r, f, S, s, (RunS.seq h).mono (fun σ H ⟨F', r', f, S, l, s', z⟩ => ⟨B, F', r', f, S, s', z⟩) (fun _ _ z => z) (fun _ _ z => z) (fun _ _ z => z)⟩
theorem snd_one {st : Stmt} {m : MS} (h1 : PS X st (tS g W m)) : PSs X [st] (tS g W m) := pss_one h1
theorem snd_pass {pos : Pos} : PS X (.Pass pos) (tS g W sNx) := PS.imp ps_pass fun D σ H ⟨B, F, r, f, S, s, h⟩ => RunS.nx h s
theorem snd_break {pos : Pos} : PS X (.Break pos) (tS g W sBk) := PS.imp ps_break fun D σ H ⟨B, F, r, f, S, s, h⟩ => h F r σ H .refl s
theorem snd_continue {pos : Pos} : PS X (.Continue pos) (tS g W sCt) := PS.imp ps_continue fun D σ H ⟨B, F, r, f, S, s, h⟩ => h F r σ H .refl s
theorem snd_doc {x j pos pos'} : PS X (.Expr (.Constant (.str x) j pos) pos') (tS g W sNx) := PS.imp ps_doc fun D σ H ⟨B, F, r, f, S, s, h⟩ => RunS.nx h s
theorem snd_expr {α : Type} {P : Bs → Hp → List Addr → Fr → L2.St → Hp → α → V → Prop} {e : Expr} {m : M α} {pos : Pos} (he : PE X e (tM g W P m)) (hs : swapsWith e none pos.line X.env = pure false := by rfl) : PS X (.Expr e pos) (tS g W (sDrop m)) :=
  PS.imp (ps_expr he hs) fun D σ H ⟨B, F, r, f, S, s, h⟩ => tM.mono (tS_then (P := P) s h) fun v H1 ⟨a, F', r', f, S, l, s', p, z⟩ => RunS.nx z s'
theorem rx_c {d : D} {fr : Bool} {v : V} (h : RX g B F r f σ H d fr v) : RXc g B F r H d fr v := by
  unfold RX at h
  unfold RXc
  split
  · rename_i e
    rw [if_pos e] at h
    obtain ⟨a, e1, n⟩ := h
    exact ⟨a, e1, n.co, n.nF, n.nr, n.nB⟩
  · rename_i e
    rw [if_neg e] at h
    exact h
theorem snd_ret {e : Expr} {m : M DX} {pos : Pos} (he : PE X e (tX g W m)) : PS X (.Return (some e) pos) (tS g W (sRet m)) :=
  PS.imp (ps_ret he) fun D σ H ⟨B, F, r, f, S, s, h⟩ => tM.mono (tS_then (P := PX g) s h) fun v H1 ⟨a, F', r', f, S, l, s', p, z⟩ => z F' r' σ H1 v .refl s' (rx_c p)
theorem snd_retN {pos : Pos} : PS X (.Return none pos) (tS g W sRetN) := PS.imp ps_retN fun D σ H ⟨B, F, r, f, S, s, h⟩ => h F r σ H _ .refl s (by unfold RXc; rw [if_neg (by decide)]; exact .non)
theorem snd_retV (c : Good X W g q) {i : Nat} {x : Str} {p pos : Pos} (hN : q.N[i]? = some x) (hv : Vis q.sc x) (hd : (x == ("__debug__" : Str)) = false := by decide) (hcd : (x == ("__classdict__" : Str)) = false := by decide) : PS X (.Return (some (.Name x p)) pos) (tS g W (sRetV i)) :=
  PS.imp (ps_ret (c.var hN hv hd hcd)) fun D σ H ⟨B, F, r, f, S, s, h⟩ => by
    replace h : RunS g W B F r (sRetV i g.cx f S) D := h
    unfold sRetV at h
    cases e : f[i]? with
    | none => rw [e] at h; exact h.elim
    | some sl =>
      rw [e] at h
      cases sl with
      | val d =>
        obtain ⟨v, h1, h2⟩ := s.slot i _ e
        exact ⟨v, h1, h F r σ H v .refl s (by unfold RXc; rw [if_neg (by decide)]; exact h2)⟩
      | own d =>
        obtain ⟨a, h1, h2⟩ := s.slot i _ e
        obtain ⟨k1, k2, k3⟩ := s.ow i a ⟨⟨d, e⟩, h1⟩
        exact ⟨_, h1, h F r σ H _ .refl (s.setSl (i := i) (sl := .un) (fun d e => by cases e) trivial) (by unfold RXc; rw [if_pos rfl]; exact ⟨a, rfl, h2, k1, k2, k3⟩)⟩
      | un => exact h.elim
      | ex fs => exact h.elim
      | lam => exact h.elim
theorem snd_if {c : Expr} {a b : List Stmt} {t : M Bool} {m n : MS} {pos : Pos} (hc : PT X c (tB g W t)) (ha : PSs X a (tS g W m)) (hb : PSs X b (tS g W n)) : PS X (.If c a b pos) (tS g W (sIf t m n)) :=
  PS.imp (ps_if hc ha hb) fun D σ H ⟨B, F, r, f, S, s, h⟩ => tM.mono (tS_then (P := PB) s h) fun v H1 ⟨kk, F', r', f, S, l, s', p, z⟩ => by
    cases (show kk = v from p)
    cases v with
    | true => exact ⟨B, F', r', f, S, s', z⟩
    | false => exact ⟨B, F', r', f, S, s', z⟩
/-! ### a slot is assigned -/
theorem SR.assign (s : SR g B F r f S σ H) {i : Nat} {d : DX} {v : V} (h : RX g B F r f σ H d.1 d.2 v) : SR g B F r (f.set i (slOf d)) S (σ.set i (some v)) H := by
  have own : ∀ {k a}, ownAt (f.set i (slOf d)) (σ.set i (some v)) k a → (k ≠ i ∧ ownAt f σ k a) ∨ (k = i ∧ d.2 = true ∧ v = .ref a) := fun {k a} ⟨⟨dd, h1⟩, h2⟩ => by
    by_cases e : i = k
    · subst e
      right
      rw [List.getElem?_set_self'] at h1 h2
      cases z : f[i]? with
      | none => rw [z] at h1; cases h1
      | some w =>
        cases z2 : σ[i]? with
        | none => rw [z2] at h2; cases h2
        | some w2 =>
          rw [z] at h1
          rw [z2] at h2
          simp at h1 h2
          refine ⟨rfl, ?_, h2⟩
          unfold slOf at h1
          split at h1
          · assumption
          · cases h1
    · rw [List.getElem?_set_ne e] at h1 h2
      exact .inl ⟨fun z => e z.symm, ⟨dd, h1⟩, h2⟩
  have nw : ∀ {a}, d.2 = true → v = .ref a → New g B F r f σ H d.1 a := fun {a} e1 e2 => by
    unfold RX at h
    rw [if_pos e1] at h
    obtain ⟨a', z1, z2⟩ := h
    rw [e2] at z1
    cases z1
    exact z2
  refine ⟨s.e1, by rw [List.length_set, List.length_set]; exact s.len, fun k sl e => ?_, fun k a ha => ?_, fun j k a h1 h2 => ?_, s.bs, fun a o h => ?_, s.lck⟩
  · by_cases ek : i = k
    · subst ek
      rw [List.getElem?_set_self'] at e ⊢
      cases z : f[i]? with
      | none => rw [z] at e; cases e
      | some w =>
        have hi : i < f.length := (List.getElem?_eq_some_iff.mp z).1
        have hi2 : i < σ.length := by rw [← s.len]; exact hi
        rw [z] at e
        rw [List.getElem?_eq_getElem hi2]
        simp at e
        subst e
        unfold slOf
        unfold RX at h
        split
        · rename_i e1
          rw [if_pos e1] at h
          obtain ⟨a, z1, z2⟩ := h
          exact ⟨a, by simp [z1], z2.co⟩
        · rename_i e1
          rw [if_neg e1] at h
          exact ⟨v, by simp, h⟩
    · rw [List.getElem?_set_ne ek] at e
      rw [List.getElem?_set_ne ek]
      exact s.slot k sl e
  · rcases own ha with ⟨_, z⟩ | ⟨_, z1, z2⟩
    · exact s.ow k a z
    · have n := nw z1 z2
      exact ⟨n.nF, n.nr, n.nB⟩
  · rcases own h1 with ⟨_, z⟩ | ⟨e1, z1, z2⟩
    · rcases own h2 with ⟨_, y⟩ | ⟨e2, y1, y2⟩
      · exact s.od j k a z y
      · exact absurd z ((nw y1 y2).no j)
    · rcases own h2 with ⟨_, y⟩ | ⟨e2, y1, y2⟩
      · exact absurd y ((nw z1 z2).no k)
      · rw [e1, e2]
  · obtain ⟨h1, h2, h3, h4, h5⟩ := s.pin a o h
    refine ⟨h1, h2, h3, h4, fun k hk => ?_⟩
    rcases own hk with ⟨_, z⟩ | ⟨_, z1, z2⟩
    · exact h5 k z
    · have := (nw z1 z2).np
      rw [h] at this
      cases this
/-- a name of the block's that is assigned -/
structure LocQ (q : Qc) (i : Nat) (x : Str) : Prop where
  at_ : q.N[i]? = some x
  loc : Loc q.sc x
  fn : q.fn x = true ∨ q.sc.names.lookup x = some .local
theorem snd_set (c : Good X W g q) (hN : q.N.Nodup) {i : Nat} {x : Str} {e : Expr} {m : M DX} {pos pos' : Pos} (hx : LocQ q i x) (he : PE X e (tX g W m)) (hs : swapsWith e (some (.Name x pos')) pos.line X.env = pure false := by rfl) : PS X (.Assign [.Name x pos'] e pos) (tS g W (sSet i m)) :=
  PS.imp (ps_set (by rw [c.N]; exact hN) (by rw [c.N]; exact hx.at_) (by rw [c.sc]; exact hx.loc) he hs (by rw [c.fn, c.sc]; exact hx.fn)) fun D σ H ⟨B, F, r, f, S, s, h⟩ => tM.mono (tS_then (P := PX g) s h) fun v H1 ⟨d, F', r', f, S, l, s', p, z⟩ => RunS.nx z (s'.assign p)
/-! ### raise -/
theorem SR.newX (s : SR g B F r f S σ H) {p : Addr} (hp : H p = none) (fs : List (Str × V)) : SR g B F r f S σ (upd H p (.xd fs)) := s.alloc hp _
theorem RepF.zip : ∀ {fs : List Tx} {ds : List D} {vs : List V}, RepL g.K F r ds vs → RepF g.K F r (fs.zip ds) ((fs.map toStr).zip vs)
  | [], _, _, _ => by simp; exact .nil
  | _ :: _, [], _, .nil => .nil
  | x :: fs, d :: ds, _, .cons h q => .cons h (RepF.zip q)
theorem RepF.append : ∀ {ds es : List (Tx × D)} {vs us : List (Str × V)}, RepF g.K F r ds vs → RepF g.K F r es us → RepF g.K F r (ds ++ es) (vs ++ us)
  | _, _, _, _, .nil, s => s
  | _, _, _, _, .cons h q, s => .cons h (RepF.append q s)
theorem RepF.rev {ds : List (Tx × D)} {vs : List (Str × V)} (h : RepF g.K F r ds vs) : RepF g.K F r ds.reverse vs.reverse := by
  induction h with
  | nil => exact .nil
  | cons h q ih =>
    rw [List.reverse_cons, List.reverse_cons]
    exact ih.append (.cons h .nil)
theorem snd_raise (c : Good X W g q) {k : Nat} {nm : Str} {fs : List Tx} {e : Expr} {es : List Expr} {m : M D} {ms : List (M D)} {p pos rpos : Pos} (hx : g.exc k = some (nm, fs)) (hg : GlQ q nm) (ha : PA X (e :: es) (tAlls g W (m :: ms))) (hl : (m :: ms).length = fs.length) (hz : fs.length ≤ 1000)
    (hdb : (nm == ("__debug__" : Str)) = false := by decide) (he : starEach (e :: es) X.env = (false, eval e X.env) :: starEach es X.env := by rfl) (hpl : (backTo pos (starEach es X.env)).any (·.1) = false := by rfl) :
    PS X (.Raise (some (.Call (.Name nm p) (e :: es) [] pos)) none rpos) (tS g W (sRaise k fs (m :: ms))) := by
  obtain ⟨fI, fd, R⟩ := c.rs k nm fs hx
  refine PS.imp (ps_raiseC c.calm c.tk R (c.rm.mono c.lv2) (by unfold Gl Env.kindOf; rw [c.sc]; exact hg) ha hdb he hpl) fun D σ H ⟨B, F, r, f, S, s, h⟩ => ?_
  refine tAlls_mono (tAlls_len (mAll_run s (Run.thenS (P := PLs g) h))) fun vs H1 ⟨hv, ds, F1, r1, f1, S1, l1, s1, rp, z⟩ => ?_
  refine raw_of (by rw [hv, hl, List.length_map]) (by rw [hv, hl]; exact hz) fun d hd => ?_
  exact z F1 r1 σ _ d _ .refl (s1.newX hd _) upd_same (RepF.rev (RepF.zip rp) |>.le .refl)
end
end Mi
set_option Elab.async false
set_option linter.all false
set_option maxRecDepth 100000
/-! Mi, part 12: calls of the text's own defs. -/
namespace Mi
open PySem PySem.Spec L2
section
variable {X : Cx} {g : G} {W : WX} {q : Qc} {B : Bs} {F F' H H' : Hp} {r r' : List Addr} {σ : L2.St} {f : Fr} {S S' : Store} {E : Ends}
/-- a state behind a call -/
theorem SR.after (s : SR g B F r f S σ H) (e : E1 g F' r' S' H') (si : Since ⟨F, r, strip H, [], fun _ => none, fun _ => none⟩ F' r' H') : SR g B F' r' f S' σ H' := by
  have keep : ∀ {a o}, H a = some o → isTbl o = false → a ∉ r → H' a = some o := fun {a o} h1 h2 h3 => by
    rcases si.keep a o (strip_of h1 h2) h2 h3 with z | ⟨z, _⟩
    · exact z
    · cases z
  have nr : ∀ {a : Addr}, a ∈ r → (∀ vs, H a ≠ some (.lst vs)) → (∀ vs, H a ≠ some (.dK vs)) → False := fun {a} hm h1 h2 => by
    obtain ⟨i, hi⟩ := List.mem_iff_getElem?.mp hm
    have hl := s.e1.len
    obtain ⟨hlt, _⟩ := List.getElem?_eq_some_iff.mp hi
    have hS : S[i]? = some S[i] := List.getElem?_eq_getElem (by omega)
    have z := s.e1.sto i _ a hS hi
    cases hso : S[i] with
    | lst ds => rw [hso] at z; obtain ⟨vs, z1, _⟩ := z; exact h1 vs z1
    | dct ds => rw [hso] at z; obtain ⟨vs, z1, _⟩ := z; exact h2 vs z1
  have cor : ∀ {d : D} {a : Addr}, a ∉ r → CoR g.K F r H d a → CoR g.K F' r' H' d a := fun {d a} h z => by
    cases d with
    | lst ds => obtain ⟨vs, z1, z2⟩ := z; exact ⟨vs, keep z1 rfl h, z2.le si.le⟩
    | dct ds => obtain ⟨vs, z1, z2⟩ := z; exact ⟨vs, keep z1 rfl h, z2.le si.le⟩
    | _ => exact z
  have hne : ∀ {k a}, ownAt f σ k a → strip H a ≠ none := fun {k a} ⟨⟨d, h1⟩, h2⟩ e => by
    obtain ⟨b, z1, z2⟩ := s.slot k _ h1
    rw [h2] at z1
    cases z1
    cases d with
    | lst ds => obtain ⟨vs, z1, _⟩ := z2; rw [strip_of z1 rfl] at e; cases e
    | dct ds => obtain ⟨vs, z1, _⟩ := z2; rw [strip_of z1 rfl] at e; cases e
    | _ => exact z2.elim
  refine ⟨e, s.len, fun k sl h => ?_, fun k a h => ?_, s.od, ⟨s.bs.le.trans si.le, fun a h => by obtain ⟨o, e1, e2⟩ := s.bs.there a h; exact si.there a (by show strip H a ≠ none; rw [strip_of e1 e2]; simp), fun a o h1 h2 h3 => ?_, fun a h => ?_, fun a h => ?_⟩, fun a o h => ?_, fun a o h => ?_⟩
  · have z := s.slot k sl h
    cases sl with
    | un => trivial
    | val d => obtain ⟨v, z1, z2⟩ := z; exact ⟨v, z1, z2.le si.le⟩
    | own d =>
      obtain ⟨b, z1, z2⟩ := z
      exact ⟨b, z1, cor (s.ow k b ⟨⟨d, h⟩, z1⟩).2.1 z2⟩
    | ex fs =>
      obtain ⟨a', dd, vs, z1, z2, z3, z4⟩ := z
      exact ⟨a', dd, vs, z1, z2, keep z3 rfl (fun hm => nr hm (fun vs e => by rw [z3] at e; cases e) fun vs e => by rw [z3] at e; cases e), z4.le si.le⟩
    | lam =>
      obtain ⟨a, c, q, z1, z2, z3⟩ := z
      exact ⟨a, c, q, ⟨z1.1, z1.2.trans si.le⟩, z2, keep z3 rfl (fun hm => nr hm (fun vs e => by rw [z3] at e; cases e) fun vs e => by rw [z3] at e; cases e)⟩
  · obtain ⟨h1, h2, h3⟩ := s.ow k a h
    refine ⟨?_, fun hm => ?_, h3⟩
    · cases z : F' a with
      | none => rfl
      | some u =>
        rcases si.nF a (by rw [z]; simp) with y | y
        · exact absurd h1 y
        · exact absurd y (hne h)
    · rcases si.nr a hm with y | y
      · exact h2 y
      · exact hne h y
  · rcases s.bs.keep a o h1 h2 h3 with z | ⟨z1, ob, z2⟩
    · refine .inl (keep z h2 fun hm => ?_)
      rcases s.bs.nr a hm with y | y
      · exact h3 y
      · rw [h1] at y; cases y
    · refine .inr ⟨z1, ob, keep z2 rfl fun hm => ?_⟩
      exact nr hm (fun vs e => by rw [z2] at e; cases e) fun vs e => by rw [z2] at e; cases e
  · rcases si.nF a h with y | y
    · exact s.bs.nF a y
    · right
      cases z : B.H a with
      | none => rfl
      | some u => obtain ⟨o, e1, e2⟩ := s.bs.there a (by rw [z]; simp); exact absurd (strip_of e1 e2) (by rw [show strip H a = none from y]; simp)
  · rcases si.nr a h with y | y
    · exact s.bs.nr a y
    · right
      cases z : B.H a with
      | none => rfl
      | some u => obtain ⟨o, e1, e2⟩ := s.bs.there a (by rw [z]; simp); exact absurd (strip_of e1 e2) (by rw [show strip H a = none from y]; simp)
  · obtain ⟨h1, h2, h3, h4, h5⟩ := s.pin a o h
    refine ⟨keep h1 h2 h4, h2, ?_, fun hm => ?_, h5⟩
    · cases z : F' a with
      | none => rfl
      | some u =>
        rcases si.nF a (by rw [z]; simp) with y | y
        · exact absurd h3 y
        · exact absurd (strip_of h1 h2) (by rw [show strip H a = none from y]; simp)
    · rcases si.nr a hm with y | y
      · exact h4 y
      · exact absurd (strip_of h1 h2) (by rw [show strip H a = none from y]; simp)
  · obtain ⟨h1, h2, h3, h4⟩ := s.lck a o h
    refine ⟨keep h1 (by obtain ⟨ob, u, rfl⟩ := h2; rfl) h4, h2, fun z => ?_, fun hm => ?_⟩
    · cases e : F a with
      | none => exact h3 e
      | some u =>
        rw [si.le.fz a u e] at z
        cases z
    · rcases si.nr a hm with y | y
      · exact h4 y
      · exact absurd (strip_of h1 (by obtain ⟨ob, u, rfl⟩ := h2; rfl)) (by rw [show strip H a = none from y]; simp)
/-- what a call told -/
theorem SR.told (s : SR g B F r f S σ H) (s' : SR g B F' r' f S' σ H') {d : D} {fr : Bool} {v : V} (h : RXc g ⟨F, r, strip H, [], fun _ => none, fun _ => none⟩ F' r' H' d fr v) : RX g B F' r' f σ H' d fr v := by
  unfold RXc at h
  unfold RX
  split
  · rename_i e
    rw [if_pos e] at h
    obtain ⟨a, e1, h1, h2, h3, h4⟩ := h
    refine ⟨a, e1, ⟨h1, h2, h3, ?_, fun k ⟨⟨dd, y1⟩, y2⟩ => ?_, ?_⟩⟩
    · cases z : B.H a with
      | none => rfl
      | some u => obtain ⟨o, e1, e2⟩ := s.bs.there a (by rw [z]; simp); exact absurd (strip_of e1 e2) (by rw [show strip H a = none from h4]; simp)
    · obtain ⟨b, z1, z2⟩ := s.slot k _ y1
      rw [y2] at z1
      cases z1
      have h4' : strip H a = none := h4
      cases dd with
      | lst ds => obtain ⟨vs, z1, _⟩ := z2; rw [strip_of z1 rfl] at h4'; cases h4'
      | dct ds => obtain ⟨vs, z1, _⟩ := z2; rw [strip_of z1 rfl] at h4'; cases h4'
      | _ => exact z2.elim
    · cases z : B.P a with
      | none => rfl
      | some o =>
        have h4' : strip H a = none := h4
        have := s.pin a o z
        rw [strip_of this.1 this.2.1] at h4'
        cases h4'
  · rename_i e
    rw [if_neg e] at h
    exact h
theorem Run.call {res : CR} {Q : VK} (s : SR g B F r f S σ H) (h : Run g W (PX g) B F r σ (res.thenR f) Q) : RunC g ⟨F, r, strip H, [], fun _ => none, fun _ => none⟩ res Q (WE W σ) := by
  cases res with
  | rt d fr S' => exact fun F' r' H' v e si rx => h F' r' H' v si.le (s.after e si) (s.told (s.after e si) rx)
  | exc c fs S' => exact fun F' r' H' dd vs e si h1 h2 => h F' r' H' dd vs si.le (s.after e si) h1 h2
  | bad => exact h
/-- the call of a def of the text -/
theorem run_def (c : Good X W g q) {i : Nat} {fi : FnI} {pins : List (Addr × Obj)} {s : Shared} {us : List Value} {vs : List V} {Q : VK} (ht : g.tab i = some fi) (I : Inv X pins σ H s) (rv : Vals vs us) (h : spM g fi.ps.length i vs H Q (WE W σ)) : wpAny (model X.prog X.w) X.A (call (.ref fi.f) us) (EP X pins σ Q) X.xe s := by
  obtain ⟨Fg, _, _, hb⟩ := c.cl i fi ht
  have hz : (us ++ []).length = fi.ps.length := by
    rw [List.append_nil, ← rv.length]
    exact h.1
  have hbind := hb s us I.kIn hz
  rw [List.append_nil] at hbind
  have z := Fg.go X.A X.stack s H ⟨us, []⟩ us vs Q (WE W σ) c.gd c.rm I.env0 hbind rv h
  refine wpAny_call (codeAny_mono z fun res s2 hq => ?_)
  match res, hq with
  | .error e, hq => exact passAt c.tk σ pins H s e s2 I hq
  | .ok (.ret u), hq => exact I.after hq
/-- f(e, ..) -/
theorem snd_call (c : Good X W g q) {i : Nat} {fi : FnI} {e : Expr} {es : List Expr} {m : M D} {ms : List (M D)} {p pos : Pos} (ht : g.tab i = some fi) (hg : GlQ q fi.name) (ha : PA X (e :: es) (tAlls g W (m :: ms))) (hl : (m :: ms).length = fi.ps.length)
    (hdb : (fi.name == ("__debug__" : Str)) = false := by decide) (he : starEach (e :: es) X.env = (false, eval e X.env) :: starEach es X.env := by rfl) (hpl : (backTo pos (starEach es X.env)).any (·.1) = false := by rfl) :
    PE X (.Call (.Name fi.name p) (e :: es) [] pos) (tX g W (mCall i (m :: ms))) := by
  refine ⟨fun pins s σ H Q I h => ?_⟩
  have h2 : tAlls g W (m :: ms) σ H fun vs H1 => vs.length = (m :: ms).length ∧ spM g fi.ps.length i vs H1 Q (WE W σ) := by
    refine tAlls_mono (tAlls_len (mAll_then (P := PX g) h)) fun vs H1 ⟨hv, B, ds, F, r, f, S, s, p, h⟩ => ⟨hv, ?_⟩
    exact ⟨by rw [hv, hl], F, r, S, ds, g.lamf, s.e1, p, Run.call s h⟩
  obtain ⟨_, hm, hk, _⟩ := c.cl i fi ht
  refine wpAny_Call_Name_kw (ld_glob I (by unfold Gl Env.kindOf; rw [c.sc]; exact hg) hm ?_ hdb)
  exact PySem.W.callWith_K (h₀ := X.base) I.ok.mod.kin hk (thn (ha.run pos pins s σ H _ I h2) fun us s1 ⟨vs, H1, I1, r1, q1⟩ => ⟨I1.kIn, run_def c ht I1 r1 q1.2⟩) he hpl
end
end Mi
set_option Elab.async false
set_option linter.all false
set_option maxRecDepth 100000
/-! Mi, part 13: all defs of a text, by their depth. -/
namespace Mi
open PySem PySem.Spec L2
/-- with calls so deep -/
def lvl (g : G) (bd : Nat → Option (Nat × MS)) (n : Nat) : G := { g with call := callM bd n, lv := n + 2, dep := n, lo := loM bd n }
/-- .. and a lambda that was handed in -/
def G.wl (g : G) (lam : Store → CR) : G := { g with lamf := lam }
/-- a def of the text: what is written, what it means -/
structure DefT where
  qual : Str
  params : Arguments
  body : List Stmt
  scope : Scope
  N : List Str
  m : MS
def DefT.q (d : DefT) : Qc := ⟨d.scope, d.N, fun _ => true⟩
/-- where the def's code lies -/
def At (X : Cx) (base : Heap) (fi : FnI) (d : DefT) : Prop := X.base = base ∧ X.env.qual = d.qual ++ ".<locals>." ∧ ∃ oc od dV kV doc pm an ct osl, X.K.lookup fi.f = some ⟨oc, od, .func (PySem.W.fnOf fi.name d.qual d.params d.body d.scope dV kV doc pm an X.env.code ct), osl⟩
structure Text (P : Program) (w : World) (K : PySem.W.Frag) (mg : Str → Option Value) (base : Heap) (g : G) (bd : Nat → Option (Nat × MS)) (df : Nat → Option DefT) : Prop where
  hK : g.K = K
  hm : g.mg = mg
  hd : ∀ i fi, g.tab i = some fi → ∃ d, df i = some d
  hf : ∀ i fi d, g.tab i = some fi → df i = some d → FunD K fi.name d.qual d.params d.body d.scope [] [] fi.f fi.fd ∧ FnScope d.N fi.ps d.scope ∧ bd i = some (d.N.length, d.m) ∧ mg fi.name = some (.ref fi.f) ∧ Binds K fi.fd fi.ps []
  hx : ∀ c nm fs, g.exc c = some (nm, fs) → ∃ fI fd, RaiseK P w K mg base nm (g.cls c) fI fd (fs.map toStr) 1
  he : ∀ c h a b, g.exc c = some a → g.exc h = some b → PySem.W.exmOne K (.ref (g.cls c)) (.ref (g.cls h)) = some (decide (c = h))
  hr : ∀ i fi d, g.tab i = some fi → df i = some d → ∀ n lam X W, Good X W ((lvl g bd n).wl lam) d.q → Frm X → At X base fi d → PSs X d.body (tS ((lvl g bd n).wl lam) W d.m)
section
variable {P : Program} {w : World} {K : PySem.W.Frag} {mg : Str → Option Value} {base : Heap} {g : G} {bd : Nat → Option (Nat × MS)} {df : Nat → Option DefT}
theorem frame_len {n : Nat} {args : List Sl} (h : args.length ≤ n) : (frame n args).length = n := by
  unfold frame
  rw [List.length_append, List.length_replicate]
  omega
theorem start_len {N : List Str} {vs : List V} (h : vs.length ≤ N.length) : (L2.start N vs).length = N.length := by
  unfold L2.start
  rw [List.length_append, List.length_replicate, List.length_map]
  omega
theorem E1.cg {g g' : G} {F : Hp} {r : List Addr} {S : Store} {H : Hp} (e : E1 g F r S H) (hK : g.K = g'.K) (hT : g.T = g'.T) : E1 g' F r S H :=
  ⟨e.hold, e.fro, e.len, fun i o a h1 h2 => by rw [← hK]; exact e.sto i o a h1 h2, e.rnd, e.rF, by rw [← hT]; exact e.tabs, by rw [← hT]; exact e.tF, by rw [← hT]; exact e.tr⟩
theorem RXc.cg {g g' : G} {B : Bs} {F : Hp} {r : List Addr} {H : Hp} {d : D} {fr : Bool} {v : V} (h : RXc g B F r H d fr v) (hK : g.K = g'.K) : RXc g' B F r H d fr v := by
  unfold RXc at h ⊢
  rw [← hK]
  exact h
theorem RunC.cg {g g' : G} {B : Bs} {res : CR} {Q : VK} {E : XK} (h : RunC g B res Q E) (hK : g.K = g'.K) (hT : g.T = g'.T) (hc : g.cls = g'.cls) : RunC g' B res Q E := by
  cases res with
  | rt d fr S' => exact fun F' r' H' v e si p => h F' r' H' v (e.cg hK.symm hT.symm) si (p.cg hK.symm)
  | exc c fs S' => exact fun F' r' H' dd vs e si h1 h2 => by rw [← hc]; exact h F' r' H' dd vs (e.cg hK.symm hT.symm) si h1 (by rw [hK]; exact h2)
  | bad => exact h
theorem spM_wl {g : G} {lam : Store → CR} {n i : Nat} {vs : List V} {H : Hp} {Q : VK} {E : XK} (h : spM (g.wl lam) n i vs H Q E) : spM g n i vs H Q E := by
  obtain ⟨h1, F, r, S, ds, l, e, rp, h⟩ := h
  exact ⟨h1, F, r, S, ds, l, e.cg rfl rfl, rp, RunC.cg h rfl rfl rfl⟩
/-- the state at a def's entry -/
theorem SR.entry {F : Hp} {r : List Addr} {S : Store} {H : Hp} {ds : List D} {vs : List V} {N : List Str} (e : E1 g F r S H) (h : RepL g.K F r ds vs) (hl : vs.length ≤ N.length) : SR g ⟨F, r, strip H, [], fun _ => none, fun _ => none⟩ F r (frame N.length (ds.map Sl.val)) S (L2.start N vs) H := by
  have hd := h.length
  have noown : ∀ (k : Nat) (d : D), (frame N.length (ds.map Sl.val))[k]? ≠ some (Sl.own d) := fun k d e => by
    have m := List.mem_of_getElem? e
    unfold frame at m
    rcases List.mem_append.mp m with m | m
    · obtain ⟨_, _, z⟩ := List.mem_map.mp m
      cases z
    · have := List.eq_of_mem_replicate m
      cases this
  refine ⟨e, by rw [frame_len (by rw [List.length_map]; omega), start_len hl], fun k sl hk => ?_, fun k a ⟨⟨d, z⟩, _⟩ => absurd z (noown k d), fun j k a ⟨⟨d, z⟩, _⟩ => absurd z (noown j d), ⟨.refl, fun _ z => strip_ne z, fun _ _ z _ _ => .inl (strip_some z).1, fun _ z => .inl z, fun _ z => .inl z⟩, fun a o h => (by cases h), fun a o h => (by cases h)⟩
  unfold frame at hk
  by_cases hlt : k < ds.length
  · rw [List.getElem?_append_left (by rw [List.length_map]; exact hlt), List.getElem?_map] at hk
    cases hdk : ds[k]? with
    | none => rw [hdk] at hk; cases hk
    | some d =>
      rw [hdk] at hk
      cases hk
      obtain ⟨v, h1, h2⟩ := h.get hdk
      refine ⟨v, ?_, h2⟩
      unfold L2.start
      rw [List.getElem?_append_left (by rw [List.length_map]; omega), List.getElem?_map, h1]
      rfl
  · rw [List.getElem?_append_right (by rw [List.length_map]; omega)] at hk
    have := List.eq_of_mem_replicate (List.mem_of_getElem? hk)
    subst this
    trivial
theorem all_ok (T : Text P w K mg base g bd df) : ∀ n i fi, g.tab i = some fi → FnG P w K mg base (n + 2) fi (spM (lvl g bd n) fi.ps.length i)
  | 0, i, fi, _ => ⟨fun vs H Q E h => h.1, fun A outer s H args us vs Q E _ _ _ _ _ h => by
      obtain ⟨_, F, r, S, ds, lam, _, _, h⟩ := h
      exact (show False from h).elim⟩
  | n + 1, i, fi, ht => by
    obtain ⟨d, hd⟩ := T.hd i fi ht
    obtain ⟨F, sc, hb, _, _⟩ := T.hf i fi d ht hd
    obtain ⟨oc, od, dV, kV, doc, pm, an, cdv, ct, osl, hfd, lk, hcd, _, _⟩ := F.ex
    rw [hfd] at lk
    refine ⟨fun vs H Q E h => h.1, fun A outer s H args us vs Q E hgd hr0 e0 hbd rv h => ?_⟩
    rw [hfd] at hbd
    refine LamX.run_ofS lk hcd sc hr0 e0 hbd rv h.1 fun hr => ?_
    obtain ⟨hv, Fz, r, S, ds, lam, e, rp, h⟩ := h
    have gd : Good (cxOf (L2.CX P w) P w K mg base d.N d.qual d.scope fi.f cdv A outer s H E) (fun cls dd _ H' => E cls dd H') ((lvl g bd n).wl lam) d.q := {
      K := T.hK.symm
      mg := T.hm.symm
      tk := takes_of rfl rfl rfl rfl
      calm := rfl
      N := rfl
      sc := rfl
      fn := rfl
      un := by
        have := hr.un
        show (A.deeper _).units + 65 < cLine
        omega
      gd := hgd
      rm := hr
      lv2 := Nat.le_add_left 2 n
      lvd := fun _ => rfl
      lw := fun h2 j fj hj => by
        match n, h2 with
        | m + 2, _ =>
          obtain ⟨dj, hdj⟩ := T.hd j fj hj
          exact (all_ok T m j fj hj).imp fun _ _ _ _ h => by
            obtain ⟨h1, F, r, S, ds, l, e, rp, h⟩ := h
            exact ⟨h1, F, r, S, ds, l, e.cg rfl rfl, rp, RunC.cg h rfl rfl rfl⟩
      rs := T.hx
      em := T.he
      cl := fun j fj hj => by
        obtain ⟨dj, hdj⟩ := T.hd j fj hj
        obtain ⟨Fj, _, _, mj, bj⟩ := T.hf j fj dj hj hdj
        exact ⟨(all_ok T n j fj hj).imp fun _ _ _ _ => spM_wl, mj, Fj.kp, bj⟩
      pass := passes_of rfl }
    refine ⟨_, T.hr i fi d ht hd n lam _ _ gd ⟨rfl, rfl⟩ ⟨rfl, rfl, oc, od, dV, kV, doc, pm, an, ct, osl, lk⟩, ?_⟩
    have hN : vs.length ≤ d.N.length := by
      have := sc.pre
      rw [hv]
      have e2 := congrArg List.length this
      rw [List.length_take] at e2
      omega
    refine tS.of (SR.entry (e.cg rfl rfl) rp hN) ?_
    have h' : RunC (lvl g bd (n + 1)) ⟨Fz, r, strip H, [], fun _ => none, fun _ => none⟩ (callM bd (n + 1) i (ds.map Sl.val) lam S) Q E := h
    rw [callM_succ, hb] at h'
    replace h' : RunC (lvl g bd (n + 1)) ⟨Fz, r, strip H, [], fun _ => none, fun _ => none⟩ (d.m ⟨callM bd n, lam, n, loM bd n⟩ (frame d.N.length (ds.map Sl.val)) S).toC Q E := h'
    show RunS ((lvl g bd n).wl lam) _ _ _ _ (d.m ⟨callM bd n, lam, n, loM bd n⟩ (frame d.N.length (ds.map Sl.val)) S) _
    revert h'
    cases d.m ⟨callM bd n, lam, n, loM bd n⟩ (frame d.N.length (ds.map .val)) S with
    | nx f S => exact fun h' F' r' σ H' l s => h' F' r' H' .non (s.e1.cg rfl rfl) s.bs (by unfold RXc; rw [if_neg (by decide)]; exact .non)
    | rt dd fr f S => exact fun h' F' r' σ H' v l s p => h' F' r' H' v (s.e1.cg rfl rfl) s.bs p
    | exc c fs f S => exact fun h' F' r' σ H' dd vs l s h1 h2 => h' F' r' H' dd vs (s.e1.cg rfl rfl) s.bs h1 h2
    | bk f S => exact fun h' => False.elim h'
    | ct f S => exact fun h' => False.elim h'
    | bad => exact fun h' => False.elim h'
termination_by n => n
end
end Mi
set_option Elab.async false
set_option linter.all false
set_option maxRecDepth 100000
/-! Mi, part 14: loops. -/
namespace Mi
open PySem PySem.Spec L2
/-- the walk J gives ds, from now on -/
def Yields (g : G) (L0 F : Hp) (r : List Addr) (J : It) (ds : List D) : Prop := ∀ (B : Bs) F2 r2 f S σ H, B.Lk = L0 → Le F r F2 r2 → SR g B F2 r2 f S σ H →
  (∀ i, i < ds.length → J.go i H) ∧ J.stop ds.length H ∧ ∀ i d x H', ds[i]? = some d → J.yld i H x H' → ∃ F3, Le F2 r2 F3 r2 ∧ SR g B F3 r2 f S σ H' ∧ RepV g.K F3 r2 d x
def PIt (g : G) : Bs → Hp → List Addr → Fr → L2.St → Hp → List D → It → Prop := fun B F r _ _ _ ds J => Yields g B.Lk F r J ds
abbrev tI (g : G) (W : WX) (m : M (List D)) : TI := tM g W (PIt g) m
theorem PI.imp {X : Cx} {tg e : Expr} {t t' : TI} (h : PI X tg e t) (q : ∀ σ H Q, t' σ H Q → t σ H Q) : PI X tg e t' := ⟨fun pins s σ H Q I hw => h.run pins s σ H Q I (q σ H Q hw)⟩
theorem PI.or {X : Cx} {tg e : Expr} {t t' : TI} (h : PI X tg e t) (h' : PI X tg e t') : PI X tg e (fun σ H R => t σ H R ∨ t' σ H R) := ⟨fun pins s σ H Q I hw => by
  rcases hw with hw | hw
  · exact h.run pins s σ H Q I hw
  · exact h'.run pins s σ H Q I hw⟩
/-- the target of a walk -/
def tgN : Tg → TG
  | .n k => gName k
  | .t _ => fun _ _ _ _ => False
def gNames : List Nat → TGs
  | [] => gNil
  | k :: ks => gCons (gName k) (gNames ks)
def gT (K : PySem.W.Frag) : Tg → TG
  | .n k => gName k
  | .t ks => gTup K ks.length (gNames ks)
section
variable {X : Cx} {g : G} {W : WX} {q : Qc} {B : Bs} {F F' H H' : Hp} {r r' : List Addr} {σ : L2.St} {f : Fr} {S : Store} {E : Ends}
theorem rx_val {d : D} {v : V} (h : RepV g.K F r d v) : RX g B F r f σ H d false v := by
  unfold RX
  rw [if_neg (by decide)]
  exact h
theorem SR.assignV (s : SR g B F r f S σ H) {i : Nat} {d : D} {v : V} (h : RepV g.K F r d v) : SR g B F r (f.set i (.val d)) S (σ.set i (some v)) H := s.assign (d := (d, false)) (rx_val h)
theorem gNames_run : ∀ {ks : List Nat} {ds : List D} {vs : List V} {f f' : Fr} {σ : L2.St} {Q : L2.St → Hp → Prop}, SR g B F r f S σ H → RepL g.K F r ds vs → putAll ks ds f = some f' → (∀ σ', SR g B F r f' S σ' H → (∀ k, k ∉ ks → σ'[k]? = σ[k]?) → Q σ' H) → gNames ks vs σ H Q
  | [], [], _, f, f', σ, Q, s, .nil, h, q => by cases h; exact ⟨rfl, q σ s fun _ _ => rfl⟩
  | k :: ks, d :: ds, _, f, f', σ, Q, s, .cons h1 h2, h, q => by
    refine ⟨_, _, rfl, ?_⟩
    exact gNames_run (s.assignV h1) h2 h fun σ' s' hk => q σ' s' fun j hj => by
      rw [hk j (fun z => hj (List.mem_cons_of_mem _ z)), List.getElem?_set_ne (fun z => hj (by rw [z]; exact List.mem_cons_self))]
  | [], _ :: _, _, _, _, _, _, _, _, h, _ => by cases h
  | _ :: _, [], _, _, _, _, _, _, _, h, _ => by cases h
theorem putAll_len : ∀ {ks : List Nat} {ds : List D} {f f' : Fr}, putAll ks ds f = some f' → ks.length = ds.length
  | [], [], _, _, _ => rfl
  | k :: ks, d :: ds, f, f', h => by rw [List.length_cons, List.length_cons, putAll_len (ks := ks) (ds := ds) h]
  | [], _ :: _, _, _, h => by cases h
  | _ :: _, [], _, _, h => by cases h
def Tg.ks : Tg → List Nat
  | .n k => [k]
  | .t ks => ks
/-- the target takes the value -/
theorem gT_run {t : Tg} {d : D} {v : V} {f' : Fr} {Q : L2.St → Hp → Prop} (s : SR g B F r f S σ H) (h : RepV g.K F r d v) (hp : t.put d f = some f') (q : ∀ σ', SR g B F r f' S σ' H → (∀ k, k ∉ Tg.ks t → σ'[k]? = σ[k]?) → Q σ' H) : gT g.K t v σ H Q := by
  cases t with
  | n k => cases hp; exact q _ (s.assignV h) fun j hj => by rw [List.getElem?_set_ne (fun z => hj (by rw [z]; exact List.mem_cons_self))]
  | t ks =>
    cases d with
    | tup ds =>
      replace hp : putAll ks ds f = some f' := hp
      cases h with
      | tup h1 h2 => exact ⟨_, _, rfl, s.e1.tupl h1, by rw [← h2.length, putAll_len hp], gNames_run s h2 hp q⟩
    | _ => cases hp
/-- names that are assigned -/
inductive LocEs (q : Qc) : List Expr → List Nat → Prop
  | nil : LocEs q [] []
  | cons {x : Str} {i : Nat} {p : Pos} {es : List Expr} {is : List Nat} : LocQ q i x → LocEs q es is → LocEs q (.Name x p :: es) (i :: is)
theorem snd_tgN (c : Good X W g q) (hN : q.N.Nodup) {i : Nat} {x : Str} {p : Pos} (h : LocQ q i x) : PG X (.Name x p) (gT g.K (.n i)) :=
  pg_name (by rw [c.N]; exact hN) (by rw [c.N]; exact h.at_) (by rw [c.sc]; exact h.loc) (by rw [c.fn, c.sc]; exact h.fn)
theorem snd_tgs (c : Good X W g q) (hN : q.N.Nodup) {es : List Expr} {is : List Nat} (h : LocEs q es is) : PGs X es (gNames is) := by
  induction h with
  | nil => exact pgs_nil
  | cons h1 h2 ih => exact pgs_cons (snd_tgN c hN h1) ih rfl
theorem snd_tgT (c : Good X W g q) (hN : q.N.Nodup) {es : List Expr} {is : List Nat} {k : Nat} {p : Pos} (h : LocEs q es is) (hn : (assignEach es X.env).length = is.length := by rfl) (hst : (assignEach es X.env).findIdx? (·.1) = none := by rfl) : PG X (.Tuple es k p) (gT g.K (.t is)) := by
  have z := pg_tup (pos := p) (k := k) c.calm (snd_tgs c hN h) hn hst
  rw [c.K] at z
  exact z
/-! ### for -/
theorem loop_run {t : Tg} {body : MS} {J : It} {ds : List D} {m0 : Nat} (y : Yields g B.Lk F r J ds) (s : SR g B F r f S σ H) (h : RunS g W B F r (loop t body g.cx ds f S) E) :
    ∃ Wv : Nat → Nat → L2.St → Hp → Prop, (∃ m, Wv 0 m σ H) ∧ ∀ i m σ H, Wv i m σ H → (J.stop i H ∧ E.nx σ H) ∨
      (J.go i H ∧ ∃ N : L2.St → Hp → Prop, (∀ σ' H', N σ' H' → ∃ m', m' < m ∧ Wv (i + 1) m' σ' H') ∧ ∀ x H', J.yld i H x H' → gT g.K t x σ H' fun σ2 H2 => tS g W body { E with nx := N, ct := N, bk := E.nx } σ2 H2) := by
  refine ⟨fun i m σ H => m = ds.length - i ∧ i ≤ ds.length ∧ ∃ F2 r2 f S, Le F r F2 r2 ∧ SR g B F2 r2 f S σ H ∧ RunS g W B F2 r2 (loop t body g.cx (ds.drop i) f S) E, ⟨ds.length, rfl, Nat.zero_le _, F, r, f, S, .refl, s, h⟩, ?_⟩
  rintro i m σ H ⟨rfl, hi, F2, r2, f, S, l, s, h⟩
  obtain ⟨h1, h2, h3⟩ := y B F2 r2 f S σ H rfl l s
  by_cases hlt : i < ds.length
  · right
    refine ⟨h1 i hlt, fun σ' H' => ∃ F3 r3 f S, Le F r F3 r3 ∧ SR g B F3 r3 f S σ' H' ∧ RunS g W B F3 r3 (loop t body g.cx (ds.drop (i + 1)) f S) E, fun σ' H' z => ⟨ds.length - (i + 1), by omega, rfl, hlt, z⟩, fun x H' hy => ?_⟩
    obtain ⟨F3, l3, s3, rp⟩ := h3 i ds[i] x H' (List.getElem?_eq_getElem hlt) hy
    rw [List.drop_eq_getElem_cons hlt] at h
    unfold loop at h
    cases hp : t.put ds[i] f with
    | none => rw [hp] at h; exact h.elim
    | some f' =>
      rw [hp] at h
      dsimp only at h
      refine gT_run s3 rp hp fun σ' s' _ => ?_
      refine ⟨B, F3, r2, f', S, s', ?_⟩
      revert h
      cases body g.cx f' S with
      | nx f4 S4 => exact fun h F5 r5 σ5 H5 l5 s5 => ⟨F5, r5, f4, S4, (l.trans l3).trans l5, s5, RunS.le h (l3.trans l5)⟩
      | ct f4 S4 => exact fun h F5 r5 σ5 H5 l5 s5 => ⟨F5, r5, f4, S4, (l.trans l3).trans l5, s5, RunS.le h (l3.trans l5)⟩
      | bk f4 S4 => exact fun h F5 r5 σ5 H5 l5 s5 => h F5 r5 σ5 H5 (l3.trans l5) s5
      | rt d fr f4 S4 => exact fun h => RunS.le h l3
      | exc c fs f4 S4 => exact fun h => RunS.le h l3
      | bad => exact fun h => h.elim
  · left
    have e : i = ds.length := by omega
    subst e
    rw [List.drop_length] at h
    exact ⟨h2, RunS.nx h s⟩
theorem snd_for (c : Good X W g q) {t : Tg} {tg iter : Expr} {body : List Stmt} {mi : M (List D)} {mb : MS} {pos : Pos} (hi : PI X tg iter (tI g W mi)) (hg : PG X tg (gT g.K t)) (hb : PSs X body (tS g W mb)) (hs : ∀ x, foldedSetIterable iter X.env x = pure x := by intro _; rfl) :
    PS X (.For tg iter body [] pos) (tS g W (sFor t mi mb)) :=
  PS.imp (ps_for c.pass c.calm hi hg hb hs) fun D σ H ⟨B, F, r, f, S, s, h⟩ => tM.mono (tS_then (P := PIt g) s h) fun J H1 ⟨ds, F', r', f, S, l, s', p, z⟩ => loop_run (m0 := 0) p s' z
/-! ### while -/
theorem snd_while (c : Good X W g q) {e : Expr} {body : List Stmt} {t : M Bool} {mb : MS} {n : Nat} {pos : Pos} (hc : PT X e (tB g W t)) (hb : PSs X body (tS g W mb)) : PS X (.While e body [] pos) (tS g W (sWhile n t mb)) :=
  PS.imp (ps_while c.pass hc hb) fun D σ H ⟨B, F, r, f, S, s, h⟩ => by
    refine ⟨fun m σ H => ∃ F2 r2 f S, SR g B F2 r2 f S σ H ∧ RunS g W B F2 r2 (whil t mb g.cx m f S) D, ⟨n, F, r, f, S, s, h⟩, ?_⟩
    rintro m σ H ⟨F2, r2, f, S, s, h⟩
    cases m with
    | zero => exact h.elim
    | succ m =>
      have h' : RunS g W B F2 r2 ((t g.cx f S).thenS fun k f S => match k with
        | true => (match mb g.cx f S with
          | .nx f S => whil t mb g.cx m f S
          | .ct f S => whil t mb g.cx m f S
          | .bk f S => .nx f S
          | .rt d fr f S => .rt d fr f S
          | .exc c fs f S => .exc c fs f S
          | .bad => .bad)
        | false => .nx f S) D := by
        unfold whil at h
        revert h
        cases t g.cx f S with
        | ok k f S => cases k <;> exact fun h => h
        | exc c fs f S => exact fun h => h
        | bad => exact fun h => h
      refine tM.mono (tS_then (P := PB) s h') fun v H1 ⟨k, F', r', f, S, l, s', p, z⟩ => ?_
      cases (show k = v from p)
      cases v with
      | true =>
        refine ⟨fun σ' H' => ∃ F3 r3 f S, SR g B F3 r3 f S σ' H' ∧ RunS g W B F3 r3 (whil t mb g.cx m f S) D, fun σ' H' y => ⟨m, Nat.lt_succ_self _, y⟩, ⟨B, F', r', f, S, s', ?_⟩⟩
        dsimp only at z
        revert z
        cases mb g.cx f S with
        | nx f4 S4 => exact fun h F5 r5 σ5 H5 l5 s5 => ⟨F5, r5, f4, S4, s5, RunS.le h l5⟩
        | ct f4 S4 => exact fun h F5 r5 σ5 H5 l5 s5 => ⟨F5, r5, f4, S4, s5, RunS.le h l5⟩
        | bk f4 S4 => exact fun h => h
        | rt d fr f4 S4 => exact fun h => h
        | exc c fs f4 S4 => exact fun h => h
        | bad => exact fun h => h.elim
      | false => exact RunS.nx z s'
/-! ### what is walked -/
theorem yields_seq {L0 : Hp} {J : It} {n : Nat} {G : Hp → Prop} {Y : Nat → Hp → V → Hp → Prop} {ds : List D} (w : Walk J n G Y) (hn : ds.length = n) (hG : ∀ B F2 r2 f S σ H, Le F r F2 r2 → SR g B F2 r2 f S σ H → G H)
    (hY : ∀ B F2 r2 f S σ H i d x H', Le F r F2 r2 → SR g B F2 r2 f S σ H → ds[i]? = some d → Y i H x H' → ∃ F3, Le F2 r2 F3 r2 ∧ SR g B F3 r2 f S σ H' ∧ RepV g.K F3 r2 d x) : Yields g L0 F r J ds := by
  intro B F2 r2 f S σ H _ l s
  have gg := hG B F2 r2 f S σ H l s
  refine ⟨fun i hi => w.goes i H (by omega) gg, by rw [hn]; exact w.stops H gg, fun i d x H' hd hy => ?_⟩
  have hi : i < n := by
    obtain ⟨z, _⟩ := List.getElem?_eq_some_iff.mp hd
    omega
  exact hY B F2 r2 f S σ H i d x H' l s hd (w.yields i H x H' hi gg hy)
theorem yat {ds : List D} {vs : List V} (h : RepL g.K F r ds vs) {F2 r2} {f : Fr} {S : Store} {σ : L2.St} {H : Hp} {i : Nat} {d : D} {x : V} {H' : Hp} (l : Le F r F2 r2) (s : SR g B F2 r2 f S σ H) (hd : ds[i]? = some d) (y : YAt vs i H x H') : ∃ F3, Le F2 r2 F3 r2 ∧ SR g B F3 r2 f S σ H' ∧ RepV g.K F3 r2 d x := by
  obtain ⟨rfl, y⟩ := y
  obtain ⟨v, h1, h2⟩ := h.get hd
  rw [h1] at y
  cases y
  exact ⟨F2, .refl, s, h2.le l⟩
theorem snd_iter (c : Good X W g q) {e tg : Expr} {m : M D} (he : PE X e (tE g W m)) : PI X tg e (tI g W (mIter m)) :=
  PI.imp (PI.or (pi_list he) (PI.or (pi_tup he) (pi_str he))) fun σ H R ⟨B, F, r, f, S, s, h⟩ => by
    rw [c.K]
    replace h : Run g W (PIt g) B F r σ ((m g.cx f S).bind fun d f S => mOpt (walkD d) g.cx f S) R := h
    have hm : ∀ {P : V → Hp → Prop}, Run g W (PD g) B F r σ (m g.cx f S) P → tE g W m σ H P := fun h => ⟨B, F, r, f, S, s, h⟩
    cases hr : m g.cx f S with
    | bad => rw [hr] at h; exact h.elim
    | exc c fs f1 S1 =>
      rw [hr] at h
      exact .inl (hm (by rw [hr]; exact h))
    | ok d f1 S1 =>
      rw [hr] at h
      replace h : Run g W (PIt g) B F r σ (mOpt (walkD d) g.cx f1 S1) R := h
      unfold mOpt at h
      cases hw : walkD d with
      | none => rw [hw] at h; exact h.elim
      | some ds =>
        rw [hw] at h
        dsimp only at h
        cases d with
        | lst es =>
          cases hw
          refine .inl (hm ?_)
          rw [hr]
          intro F' r' H' v l s p
          cases p with
          | @lst a vs _ h1 h2 =>
            refine ⟨a, rfl, ⟨vs, SqL.of (s.e1.lst h1)⟩, h F' r' H' _ l s ?_⟩
            exact yields_seq walk_list h2.length (fun B F2 r2 f S σ H l s => SqL.of (s.e1.lst (l.fz _ _ h1))) fun B F2 r2 f S σ H i d x H' l s => yat h2 l s
        | tup es =>
          cases hw
          refine .inr (.inl (hm ?_))
          rw [hr]
          intro F' r' H' v l s p
          cases p with
          | @tup a vs _ h1 h2 =>
            refine ⟨a, rfl, ⟨vs, s.e1.tupl h1⟩, h F' r' H' _ l s ?_⟩
            exact yields_seq walk_tup h2.length (fun B F2 r2 f S σ H l s => s.e1.tupl (SqT.up l.fz h1)) fun B F2 r2 f S σ H i d x H' l s => yat h2 l s
        | scr ns =>
          cases hw
          refine .inl (hm ?_)
          rw [hr]
          intro F' r' H' v l s p
          cases p with
          | @scr a _ h1 =>
            refine ⟨a, rfl, ⟨_, s.e1.scr h1⟩, h F' r' H' _ l s ?_⟩
            exact yields_seq (walk_list (xs := ns.map V.int)) (by rw [List.length_map, List.length_map]) (fun B F2 r2 f S σ H l s => s.e1.scr (SqL.up l.fz h1)) fun B F2 r2 f S σ H i d x H' l s => yat (RepL.ints ns) l s
        | str z =>
          cases hw
          refine .inr (.inr (hm ?_))
          rw [hr]
          intro F' r' H' v l s p
          cases p
          refine ⟨_, rfl, h F' r' H' _ l s ?_⟩
          refine yields_seq walk_str (by unfold chars; rw [List.length_map]; rfl) (fun _ _ _ _ _ _ _ _ _ => trivial) fun B F2 r2 f S σ H i d x H' l s hd y => ?_
          obtain ⟨rfl, cc, y1, rfl⟩ := y
          unfold chars at hd
          rw [List.getElem?_map] at hd
          have y2 : z[i]? = some cc := by
            have : (toStr z).cps[i]? = z[i]? := by unfold toStr; simp
            rw [← this]; exact y1
          rw [y2] at hd
          cases hd
          exact ⟨F2, .refl, s, .str [cc]⟩
        | _ => cases hw
/-- the arguments, then what is walked -/
theorem mAll_it {ms : List (M D)} {k : List D → Option (List D)} {R : It → Hp → Prop} (h : tI g W (mBind (mAll ms) fun ds => mOpt (k ds)) σ H R) : tAlls g W ms σ H fun vs H1 => ∃ (B : Bs) (ds es : List D) (F : Hp) (r : List Addr) (f : Fr) (S : Store), SR g B F r f S σ H1 ∧ RepL g.K F r ds vs ∧ k ds = some es ∧ ∀ J, Yields g B.Lk F r J es → R J H1 := by
  obtain ⟨B, F, r, f, S, s, h⟩ := h
  refine tAlls_mono (mAll_run s (Run.bind (P := PLs g) h)) fun vs H1 ⟨ds, F1, r1, f1, S1, l1, s1, p, q1⟩ => ?_
  unfold mOpt at q1
  cases e : k ds with
  | none => rw [e] at q1; exact q1.elim
  | some es =>
    rw [e] at q1
    exact ⟨B, ds, es, F1, r1, f1, S1, s1, p, e, fun J y => q1 F1 r1 H1 J .refl s1 y⟩
theorem yields_range {L0 : Hp} {lo : Int} {n : Nat} : Yields g L0 F r (Itr lo n) (rangeD lo n) :=
  yields_seq walk_range (by unfold rangeD; rw [List.length_map, List.length_range]) (fun _ _ _ _ _ _ _ _ _ => trivial) fun B F2 r2 f S σ H i d x H' l s hd y => by
    obtain ⟨rfl, rfl⟩ := y
    unfold rangeD at hd
    rw [List.getElem?_map] at hd
    have hi : i < n := by
      cases z : (List.range n)[i]? with
      | none => rw [z] at hd; cases hd
      | some w =>
        obtain ⟨z1, _⟩ := List.getElem?_eq_some_iff.mp z
        rw [List.length_range] at z1
        exact z1
    rw [List.getElem?_range hi] at hd
    cases hd
    exact ⟨F2, .refl, s, .int _⟩
theorem inR_iff {i : Int} (h : inR i = true) : -(2 ^ 62) ≤ i ∧ i < 2 ^ 62 := by
  unfold inR at h
  simpa only [Bool.and_eq_true, decide_eq_true_eq] using h
theorem snd_range1 (c : Good X W g q) {a tg : Expr} {m : M D} {p pos : Pos} (hg : GlQ q "range") (hm : g.mg "range" = none) (ha : PE X a (tE g W m)) (hs : starEach [a] X.env = [(false, eval a X.env)] := by rfl) : PI X tg (.Call (.Name "range" p) [a] [] pos) (tI g W (mRange1 m)) :=
  PI.imp (pi_range1 (by unfold Gl Env.kindOf; rw [c.sc]; exact hg) (by rw [c.mg]; exact hm) (pa_cons ha pa_nil hs) hs) fun σ H R h => by
    refine tAlls_mono (ms := [m]) (mAll_it h) fun vs H1 ⟨B, ds, es, F, r, f, S, s, p, e, y⟩ => ?_
    split at e
    · rename_i j
      split at e
      · rename_i hj
        cases e
        cases p with
        | cons p1 p2 =>
          cases p1
          cases p2
          exact ⟨j, rfl, (inR_iff hj).1, (inR_iff hj).2, y _ yields_range⟩
      · cases e
    · cases e
theorem snd_range2 (c : Good X W g q) {a b tg : Expr} {m n : M D} {p pos : Pos} (hg : GlQ q "range") (hm : g.mg "range" = none) (ha : PE X a (tE g W m)) (hb : PE X b (tE g W n)) (hs : starEach [a, b] X.env = [(false, eval a X.env), (false, eval b X.env)] := by rfl) (hs2 : starEach [b] X.env = [(false, eval b X.env)] := by rfl) : PI X tg (.Call (.Name "range" p) [a, b] [] pos) (tI g W (mRange2 m n)) :=
  PI.imp (pi_range2 (by unfold Gl Env.kindOf; rw [c.sc]; exact hg) (by rw [c.mg]; exact hm) (pa_cons ha (pa_cons hb pa_nil hs2) (by rw [hs, hs2])) hs hs2) fun σ H R h => by
    refine tAlls_mono (ms := [m, n]) (mAll_it h) fun vs H1 ⟨B, ds, es, F, r, f, S, s, p, e, y⟩ => ?_
    split at e
    · rename_i i j
      split at e
      · rename_i hj
        cases e
        rw [Bool.and_eq_true] at hj
        cases p with
        | cons p1 p2 =>
          cases p1
          cases p2 with
          | cons p2 p3 =>
            cases p2
            cases p3
            exact ⟨i, j, rfl, ⟨(inR_iff hj.1).1, (inR_iff hj.1).2, (inR_iff hj.2).1, (inR_iff hj.2).2⟩, y _ yields_range⟩
      · cases e
    · cases e
theorem RepV.walkL {d : D} {ds : List D} {v : V} (s : SR g B F r f S σ H) (h : RepV g.K F r d v) (e : walkL d = some ds) : ∃ a vs, v = .ref a ∧ RepL g.K F r ds vs ∧ ∀ B F2 r2 f S σ H, Le F r F2 r2 → SR g B F2 r2 f S σ H → SqL g.K H a vs := by
  cases d with
  | lst es =>
    cases e
    cases h with
    | lst h1 h2 => exact ⟨_, _, rfl, h2, fun B F2 r2 f S σ H l s => SqL.of (s.e1.lst (l.fz _ _ h1))⟩
  | scr ns =>
    cases e
    cases h with
    | scr h1 => exact ⟨_, _, rfl, RepL.ints ns, fun B F2 r2 f S σ H l s => s.e1.scr (SqL.up l.fz h1)⟩
  | _ => cases e
theorem ypair {xs ys : Nat → Option V} {i : Nat} {x : V} {a b : D} {v w : V} {F2 r2} {f : Fr} {S : Store} {σ : L2.St} {H H' : Hp} (s : SR g B F2 r2 f S σ H) (y : YPair xs ys i H x H') (h1 : xs i = some v) (h2 : ys i = some w) (ra : RepV g.K F2 r2 a v) (rb : RepV g.K F2 r2 b w) :
    ∃ F3, Le F2 r2 F3 r2 ∧ SR g B F3 r2 f S σ H' ∧ RepV g.K F3 r2 (.tup [a, b]) x := by
  obtain ⟨T, v', w', rfl, hT, rfl, e1, e2⟩ := y
  rw [h1] at e1
  rw [h2] at e2
  cases e1
  cases e2
  obtain ⟨F3, l, s', rp⟩ := s.newT hT (.cons ra (.cons rb .nil))
  exact ⟨F3, l, s', rp⟩
theorem pairD_len : ∀ {xs ys : List D}, (pairD xs ys).length = min xs.length ys.length
  | [], ys => by unfold pairD; simp
  | _ :: _, [] => by unfold pairD; simp
  | x :: xs, y :: ys => by unfold pairD; rw [List.length_cons, pairD_len, List.length_cons, List.length_cons]; omega
theorem pairD_get : ∀ {xs ys : List D} {i : Nat} {d : D}, (pairD xs ys)[i]? = some d → ∃ a b, xs[i]? = some a ∧ ys[i]? = some b ∧ d = .tup [a, b]
  | [], _, i, d, h => by unfold pairD at h; simp at h
  | _ :: _, [], i, d, h => by unfold pairD at h; simp at h
  | x :: xs, y :: ys, 0, d, h => by unfold pairD at h; simp at h; exact ⟨x, y, rfl, rfl, h.symm⟩
  | x :: xs, y :: ys, i + 1, d, h => by
    unfold pairD at h
    obtain ⟨a, b, h1, h2, h3⟩ := pairD_get (i := i) (d := d) (by simpa using h)
    exact ⟨a, b, by simpa using h1, by simpa using h2, h3⟩
theorem snd_enum (c : Good X W g q) {e : Expr} {m : M D} {p pos tpos : Pos} {elts : List Expr} {kk : Nat} (hg : GlQ q "enumerate") (hm : g.mg "enumerate" = none) (ha : PE X e (tE g W m)) (hs : starEach [e] X.env = [(false, eval e X.env)] := by rfl) : PI X (.Tuple elts kk tpos) (.Call (.Name "enumerate" p) [e] [] pos) (tI g W (mEnum m)) :=
  PI.imp (pi_enum (by unfold Gl Env.kindOf; rw [c.sc]; exact hg) (by rw [c.mg]; exact hm) (pa_cons ha pa_nil hs) hs) fun σ H R h => by
    rw [c.K]
    refine tAlls_mono (ms := [m]) (mAll_it h) fun vs H1 ⟨B, ds, es, F, r, f, S, s, p, e, y⟩ => ?_
    split at e
    · rename_i d
      cases hd : walkL d with
      | none => rw [hd] at e; cases e
      | some xs =>
        rw [hd] at e
        cases e
        cases p with
        | cons p1 p2 =>
          cases p2
          obtain ⟨a, ws, rfl, h1, h2⟩ := RepV.walkL s p1 hd
          refine ⟨a, ws, rfl, h2 B F r f S σ H1 .refl s, y _ ?_⟩
          refine yields_seq walk_enum (by rw [pairD_len]; unfold rangeD; rw [List.length_map, List.length_range, h1.length]; omega) h2 fun B F2 r2 f S σ H i d x H' l s hd yy => ?_
          obtain ⟨a1, b1, k1, k2, rfl⟩ := pairD_get hd
          obtain ⟨w, z1, z2⟩ := h1.get k2
          unfold rangeD at k1
          rw [List.getElem?_map] at k1
          have hi : i < xs.length := (List.getElem?_eq_some_iff.mp k2).1
          rw [List.getElem?_range hi] at k1
          cases k1
          refine ypair s yy rfl z1 ?_ (z2.le l)
          have z0 : (0 : Int) + (i : Nat) = (i : Nat) := Int.zero_add _
          show RepV g.K F2 r2 (.int (0 + (i : Nat))) (.int (i : Nat))
          rw [z0]
          exact .int _
    · cases e
theorem walk_zipT {K : PySem.W.Frag} {a b : Addr} {xs ys : List V} {n : Nat} (hn : n = min xs.length ys.length) : Walk (RZ.ItzT K a b) n (fun H => SqT K H a xs ∧ SqT K H b ys) (YPair (fun i => xs[i]?) (fun i => ys[i]?)) := by
  subst hn
  refine ⟨fun i _ hi q => ?_, fun _ q => ⟨xs, ys, q.1, q.2, by omega⟩, fun i H v H' _ q y => ?_⟩
  · have h1 : i < xs.length := by omega
    have h2 : i < ys.length := by omega
    exact ⟨xs, ys, xs[i], ys[i], q.1, q.2, by simp [h1], by simp [h2]⟩
  · obtain ⟨T, x, z, h1, h2, h3, h4, h5⟩ := y
    exact ⟨T, x, z, h1, h2, h3, h4 xs q.1, h5 ys q.2⟩
theorem snd_zip (c : Good X W g q) {e e2 : Expr} {m n : M D} {p pos tpos : Pos} {elts : List Expr} {kk : Nat} (hg : GlQ q "zip") (hm : g.mg "zip" = none) (ha : PE X e (tE g W m)) (hb : PE X e2 (tE g W n)) (hs : starEach [e, e2] X.env = (false, eval e X.env) :: starEach [e2] X.env := by rfl) (hs2 : starEach [e2] X.env = [(false, eval e2 X.env)] := by rfl) : PI X (.Tuple elts kk tpos) (.Call (.Name "zip" p) [e, e2] [] pos) (tI g W (mZip m n)) :=
  PI.imp (RZ.pi_zipA (by unfold Gl Env.kindOf; rw [c.sc]; exact hg) (by rw [c.mg]; exact hm) (pa_cons ha (pa_cons hb pa_nil hs2) hs) hs (by rw [hs2]; rfl)) fun σ H R h => by
    rw [c.K]
    refine tAlls_mono (ms := [m, n]) (mAll_it h) fun vs H1 ⟨B, ds, es, F, r, f, S, s, p, e, y⟩ => ?_
    split at e
    · rename_i xs ys
      cases e
      cases p with
      | cons p1 p2 =>
        cases p2 with
        | cons p2 p3 =>
          cases p3
          cases p1 with
          | @tup a us _ q1 q2 =>
            cases p2 with
            | @tup b ws _ q3 q4 =>
              refine ⟨a, b, us, ws, rfl, .inr ⟨s.e1.tupl q1, s.e1.tupl q3, y _ ?_⟩⟩
              refine yields_seq (walk_zipT (n := min us.length ws.length) rfl) (by rw [pairD_len, q2.length, q4.length]) (fun B F2 r2 f S σ H l s => ⟨s.e1.tupl (SqT.up l.fz q1), s.e1.tupl (SqT.up l.fz q3)⟩) fun B F2 r2 f S σ H i d x H' l s hd yy => ?_
              obtain ⟨a1, b1, j1, j2, rfl⟩ := pairD_get hd
              obtain ⟨w1, z1, z2⟩ := q2.get j1
              obtain ⟨w2, z3, z4⟩ := q4.get j2
              exact ypair s yy z1 z3 (z2.le l) (z4.le l)
    · rename_i d1 d2 hne
      cases h1 : walkL d1 with
      | none => rw [h1] at e; cases e
      | some xs =>
        cases h2 : walkL d2 with
        | none => rw [h1, h2] at e; cases e
        | some ys =>
          rw [h1, h2] at e
          cases e
          cases p with
          | cons p1 p2 =>
            cases p2 with
            | cons p2 p3 =>
              cases p3
              obtain ⟨a, us, rfl, k1, k2⟩ := RepV.walkL s p1 h1
              obtain ⟨b, ws, rfl, k3, k4⟩ := RepV.walkL s p2 h2
              refine ⟨a, b, us, ws, rfl, .inl ⟨k2 B F r f S σ H1 .refl s, k4 B F r f S σ H1 .refl s, y _ ?_⟩⟩
              refine yields_seq (walk_zip (n := min us.length ws.length) rfl) (by rw [pairD_len, k1.length, k3.length]) (fun B F2 r2 f S σ H l s => ⟨k2 B F2 r2 f S σ H l s, k4 B F2 r2 f S σ H l s⟩) fun B F2 r2 f S σ H i d x H' l s hd yy => ?_
              obtain ⟨a1, b1, j1, j2, rfl⟩ := pairD_get hd
              obtain ⟨w1, z1, z2⟩ := k1.get j1
              obtain ⟨w2, z3, z4⟩ := k3.get j2
              exact ypair s yy z1 z3 (z2.le l) (z4.le l)
    · cases e
end
end Mi
set_option Elab.async false
set_option linter.all false
set_option maxRecDepth 100000
/-! Mi, part 15: comprehensions. -/
namespace Mi
open PySem PySem.Spec L2
/-- no exception -/
def WF : WX := fun _ _ _ _ => False
def Qc.blk (q : Qc) (scope : Scope) : Qc := ⟨relS scope q.sc, q.N, fun x => scope.names.lookup x == some .cell⟩
theorem Good.blk {X : Cx} {W : WX} {g : G} {q : Qc} (c : Good X W g q) (s : Shared) (H : Hp) (scope : Scope) (cl : List (Str × Addr)) (C : Addr) (fp : List Addr) : Good (X.blk s H scope (compEnvC scope cl C X.env) fp) WF g (q.blk scope) where
  K := c.K
  mg := c.mg
  tk := takes_none5
  calm := c.calm
  N := c.N
  sc := by
    show relabel scope X.env = relS scope q.sc
    rw [← c.sc]
    rfl
  fn := rfl
  un := c.un
  gd := c.gd
  rm := c.rm
  lv2 := c.lv2
  lvd := c.lvd
  lw := c.lw
  rs := c.rs
  em := c.em
  cl := c.cl
  pass := PassesOwn.never
section
variable {X : Cx} {g : G} {W : WX} {q : Qc} {B : Bs} {F F' H H' : Hp} {r r' : List Addr} {σ : L2.St} {f : Fr} {S : Store} {E : Ends}
theorem wipeF_len (f : Fr) : ∀ vs : List Nat, (wipeF f vs).length = f.length
  | [] => rfl
  | v :: vs => by unfold wipeF; rw [List.length_set, wipeF_len f vs]
theorem wipeF_out (f : Fr) {k : Nat} : ∀ {vs : List Nat}, k ∉ vs → (wipeF f vs)[k]? = f[k]?
  | [], _ => rfl
  | v :: vs, h => by
    unfold wipeF
    rw [List.getElem?_set_ne (fun e => h (by rw [e]; exact List.mem_cons_self))]
    exact wipeF_out f fun m => h (List.mem_cons_of_mem _ m)
theorem wipeF_in (f : Fr) {k : Nat} : ∀ {vs : List Nat}, k ∈ vs → (wipeF f vs)[k]? = if k < f.length then some .un else none
  | v :: vs, h => by
    unfold wipeF
    by_cases e : v = k
    · subst e
      rw [List.getElem?_set_self']
      by_cases hl : v < f.length
      · rw [if_pos hl, List.getElem?_eq_getElem (by rw [wipeF_len]; exact hl)]; rfl
      · rw [if_neg hl, List.getElem?_eq_none (by rw [wipeF_len]; omega)]; rfl
    · rw [List.getElem?_set_ne e]
      rcases List.mem_cons.mp h with z | z
      · exact absurd z.symm e
      · exact wipeF_in f z
theorem wipe_in (σ : L2.St) {k : Nat} : ∀ {vs : List Nat}, k ∈ vs → (wipe σ vs)[k]? = if k < σ.length then some none else none
  | v :: vs, h => by
    unfold wipe
    by_cases e : v = k
    · subst e
      rw [List.getElem?_set_self']
      by_cases hl : v < σ.length
      · rw [if_pos hl, List.getElem?_eq_getElem (by rw [wipe_length]; exact hl)]; rfl
      · rw [if_neg hl, List.getElem?_eq_none (by rw [wipe_length]; omega)]; rfl
    · rw [List.getElem?_set_ne e]
      rcases List.mem_cons.mp h with z | z
      · exact absurd z.symm e
      · exact wipe_in σ z
theorem wipe_same {σ σ' : L2.St} {vs : List Nat} (hl : σ'.length = σ.length) (h : ∀ k, k ∉ vs → σ'[k]? = (wipe σ vs)[k]?) : wipe σ' vs = wipe σ vs := by
  apply List.ext_getElem?
  intro k
  by_cases m : k ∈ vs
  · rw [wipe_in σ' m, wipe_in σ m, hl]
  · rw [wipe_out m, h k m]
theorem ownAt_sub {f f' : Fr} {σ σ' : L2.St} {k : Nat} {a : Addr} (hf : ∀ d : D, f'[k]? = some (Sl.own d) → f[k]? = some (Sl.own d) ∧ σ'[k]? = σ[k]?) (h : ownAt f' σ' k a) : ownAt f σ k a := by
  obtain ⟨⟨d, h1⟩, h2⟩ := h
  obtain ⟨z1, z2⟩ := hf d h1
  exact ⟨⟨d, z1⟩, by rw [← z2]; exact h2⟩
/-- another frame and other slots, with nothing owned that was not -/
theorem SR.reslot {f' : Fr} {σ' : L2.St} (s : SR g B F r f S σ H) (hl : f'.length = σ'.length) (ho : ∀ (k : Nat) (d : D), f'[k]? = some (Sl.own d) → f[k]? = some (Sl.own d) ∧ σ'[k]? = σ[k]?) (hs : ∀ (k : Nat) (sl : Sl), f'[k]? = some sl → SlR g F r H sl (σ'[k]?)) : SR g B F r f' S σ' H :=
  ⟨s.e1, hl, hs, fun k a h => s.ow k a (ownAt_sub (ho k) h), fun j k a h1 h2 => s.od j k a (ownAt_sub (ho j) h1) (ownAt_sub (ho k) h2), s.bs, fun a o h => by
    obtain ⟨h1, h2, h3, h4, h5⟩ := s.pin a o h
    exact ⟨h1, h2, h3, h4, fun k hk => h5 k (ownAt_sub (ho k) hk)⟩, s.lck⟩
theorem SR.wiped (s : SR g B F r f S σ H) (vs : List Nat) : SR g B F r (wipeF f vs) S (wipe σ vs) H := by
  refine s.reslot (by rw [wipeF_len, wipe_length]; exact s.len) (fun k d h => ?_) fun k sl h => ?_
  · by_cases m : k ∈ vs
    · rw [wipeF_in f m] at h
      split at h <;> cases h
    · rw [wipeF_out f m] at h
      exact ⟨h, wipe_out m⟩
  · by_cases m : k ∈ vs
    · rw [wipeF_in f m] at h
      split at h
      · cases h; trivial
      · cases h
    · rw [wipeF_out f m] at h
      rw [wipe_out m]
      exact s.slot k sl h
theorem backF_len (f f' : Fr) : ∀ vs : List Nat, (backF f f' vs).length = f'.length
  | [] => rfl
  | v :: vs => by unfold backF; rw [List.length_set, backF_len f f' vs]
theorem backF_out (f f' : Fr) {k : Nat} : ∀ {vs : List Nat}, k ∉ vs → (backF f f' vs)[k]? = f'[k]?
  | [], _ => rfl
  | v :: vs, h => by
    unfold backF
    rw [List.getElem?_set_ne (fun e => h (by rw [e]; exact List.mem_cons_self))]
    exact backF_out f f' fun m => h (List.mem_cons_of_mem _ m)
theorem backF_in (f f' : Fr) {k : Nat} : ∀ {vs : List Nat}, k ∈ vs → (backF f f' vs)[k]? = if k < f'.length then some ((f[k]?).getD .un) else none
  | v :: vs, h => by
    unfold backF
    by_cases e : v = k
    · subst e
      rw [List.getElem?_set_self']
      have e2 := backF_len f f' vs
      by_cases hl : v < f'.length
      · rw [if_pos hl, List.getElem?_eq_getElem (l := backF f f' vs) (by rw [e2]; exact hl)]; rfl
      · rw [if_neg hl, List.getElem?_eq_none (l := backF f f' vs) (by rw [e2]; omega)]; rfl
    · rw [List.getElem?_set_ne e]
      rcases List.mem_cons.mp h with z | z
      · exact absurd z.symm e
      · exact backF_in f f' z
/-- behind the walk: the own names as they were -/
theorem SR.back {f' : Fr} {S' : Store} {vs : List Nat} (s : SR g B F r f S σ H) (no : noOwn f vs = true) (l : Le F r F' r') (s' : SR g B F' r' (wipeF f' vs) S' (wipe σ vs) H') : SR g B F' r' (backF f f' vs) S' σ H' := by
  have hl : f'.length = σ.length := by
    have := s'.len
    rw [wipeF_len, wipe_length] at this
    exact this
  have vals : ∀ k ∈ vs, ∀ sl, f[k]? = some sl → sl = .un ∨ ∃ d, sl = .val d := fun k hk sl e => by
    have := List.all_eq_true.mp no k hk
    rw [e] at this
    cases sl with
    | un => exact .inl rfl
    | val d => exact .inr ⟨d, rfl⟩
    | _ => cases this
  refine s'.reslot (by rw [backF_len]; exact hl) (fun k d h => ?_) fun k sl h => ?_
  · by_cases m : k ∈ vs
    · rw [backF_in f f' m] at h
      split at h
      · cases e : f[k]? with
        | none => rw [e] at h; cases h
        | some sl =>
          rw [e] at h
          cases h
          rcases vals k m _ e with z | ⟨_, z⟩ <;> cases z
      · cases h
    · rw [backF_out f f' m] at h
      exact ⟨by rw [wipeF_out f' m]; exact h, (wipe_out m).symm⟩
  · by_cases m : k ∈ vs
    · rw [backF_in f f' m] at h
      split at h
      · cases e : f[k]? with
        | none => rw [e] at h; cases h; trivial
        | some sl' =>
          rw [e] at h
          cases h
          rcases vals k m _ e with z | ⟨d, z⟩
          · subst z; trivial
          · subst z
            obtain ⟨v, z1, z2⟩ := s.slot k _ e
            exact ⟨v, z1, z2.le l⟩
      · cases h
    · rw [backF_out f f' m] at h
      have := s'.slot k sl (by rw [wipeF_out f' m]; exact h)
      rw [wipe_out m] at this
      exact this
/-! ### what is being made -/
def Bs.pinned (B : Bs) (a : Addr) (o : HO) : Bs := { B with P := upd B.P a o }
theorem SR.pinL (s : SR g B F r f S σ H) {a : Addr} {o : HO} (hH : H a = some o) (ht : isTbl o = false) (nF : F a = none) (nr : a ∉ r) (no : ∀ k, ¬ ownAt f σ k a) : SR g (B.pinned a o) F r f S σ H :=
  ⟨s.e1, s.len, s.slot, s.ow, s.od, ⟨s.bs.le, s.bs.there, s.bs.keep, s.bs.nF, s.bs.nr⟩, fun b u hb => by
    by_cases e : b = a
    · subst e
      have hb' : upd B.P b o b = some u := hb
      rw [upd_same] at hb'
      cases hb'
      exact ⟨hH, ht, nF, nr, no⟩
    · have hb' : upd B.P a o b = some u := hb
      rw [upd_ne e] at hb'
      exact s.pin b u hb', s.lck⟩
theorem SR.unpin {a : Addr} {o : HO} (s : SR g (B.pinned a o) F r f S σ H) (hP : B.P a = none) : SR g B F r f S σ H ∧ H a = some o ∧ F a = none ∧ a ∉ r ∧ ∀ k, ¬ ownAt f σ k a := by
  obtain ⟨h1, _, h3, h4, h5⟩ := s.pin a o upd_same
  refine ⟨⟨s.e1, s.len, s.slot, s.ow, s.od, ⟨s.bs.le, s.bs.there, s.bs.keep, s.bs.nF, s.bs.nr⟩, fun b u hb => ?_, s.lck⟩, h1, h3, h4, h5⟩
  have e : b ≠ a := fun z => by rw [z, hP] at hb; cases hb
  exact s.pin b u (show upd B.P a o b = some u by rw [upd_ne e]; exact hb)
/-- what is being made changes -/
theorem SR.poke {a : Addr} {us vs : List V} (s : SR g B F r f S σ H) (hH : H a = some (.lst us)) (nF : F a = none) (nr : a ∉ r) (nB : B.H a = none) (no : ∀ k, ¬ ownAt f σ k a) (np : B.P a = none) : SR g B F r f S σ (upd H a (.lst vs)) := by
  have ne : ∀ {b : Addr} {u : HO}, H b = some u → (∀ ws, u ≠ .lst ws) → b ≠ a := fun e z y => by
    rw [y, hH] at e
    cases e
    exact z us rfl
  have ke : ∀ {b : Addr} {u : HO}, b ≠ a → H b = some u → upd H a (.lst vs) b = some u := fun e h => by rw [upd_ne e]; exact h
  have obr : ∀ {o : SO} {b : Addr}, b ≠ a → ObR g.K F r H o b → ObR g.K F r (upd H a (.lst vs)) o b := fun {o b} e z => by
    cases o with
    | lst ds => obtain ⟨vs, z1, z2⟩ := z; exact ⟨vs, ke e z1, z2⟩
    | dct ds => obtain ⟨vs, z1, z2⟩ := z; exact ⟨vs, ke e z1, z2⟩
  have cor : ∀ {d : D} {b : Addr}, b ≠ a → CoR g.K F r H d b → CoR g.K F r (upd H a (.lst vs)) d b := fun {d b} e z => by
    cases d with
    | lst ds => obtain ⟨vs, z1, z2⟩ := z; exact ⟨vs, ke e z1, z2⟩
    | dct ds => obtain ⟨vs, z1, z2⟩ := z; exact ⟨vs, ke e z1, z2⟩
    | _ => exact z
  refine ⟨⟨fun b u e => ?_, s.e1.fro, s.e1.len, fun i o b h1 h2 => obr (fun e => nr (by rw [← e]; exact List.mem_of_getElem? h2)) (s.e1.sto i o b h1 h2), s.e1.rnd, s.e1.rF, fun p hp => ?_, s.e1.tF, s.e1.tr⟩, s.len, fun k sl e => ?_, s.ow, s.od, ⟨s.bs.le, fun b h => ?_, fun b o h1 h2 h3 => ?_, s.bs.nF, s.bs.nr⟩, fun b o h => ?_, fun b o h => ?_⟩
  · have hb : b ≠ a := fun z => by rw [z, nF] at e; cases e
    rcases s.e1.hold b u e with z | ⟨kvs, o, z1, z2⟩
    · exact .inl (ke hb z)
    · exact .inr ⟨kvs, o, z1, ke hb z2⟩
  · obtain ⟨ps, h1, h2, h3⟩ := s.e1.tabs p hp
    refine ⟨ps, ke (ne h1 (fun ws z => by cases z)) h1, h2, fun pos cv hc => ?_⟩
    obtain ⟨c, e1, e2⟩ := h3 pos cv hc
    exact ⟨c, e1, ke (ne e2 (fun ws z => by unfold LamX.CodeO at z; cases z)) e2⟩
  · have z := s.slot k sl e
    cases sl with
    | un => trivial
    | val d => exact z
    | own d =>
      obtain ⟨b, z1, z2⟩ := z
      exact ⟨b, z1, cor (fun y => no k (by rw [← y]; exact ⟨⟨d, e⟩, z1⟩)) z2⟩
    | ex fs => obtain ⟨a', dd, ws, z1, z2, z3, z4⟩ := z; exact ⟨a', dd, ws, z1, z2, ke (ne z3 (fun ws z => by cases z)) z3, z4⟩
    | lam => obtain ⟨a', c, q, z1, z2, z3⟩ := z; exact ⟨a', c, q, z1, z2, ke (ne z3 (fun ws z => by unfold LamX.CodeO at z; cases z)) z3⟩
  · by_cases e : b = a
    · exact ⟨_, by rw [e, upd_same], rfl⟩
    · rw [upd_ne e]; exact s.bs.there b h
  · have hb : b ≠ a := fun z => by rw [z, nB] at h1; cases h1
    rcases s.bs.keep b o h1 h2 h3 with z | ⟨z1, ob, z2⟩
    · exact .inl (ke hb z)
    · exact .inr ⟨z1, ob, ke hb z2⟩
  · have hb : b ≠ a := fun z => by rw [z, np] at h; cases h
    obtain ⟨h1, h2⟩ := s.pin b o h
    exact ⟨ke hb h1, h2⟩
  · obtain ⟨h1, h2, h3, h4⟩ := s.lck b o h
    exact ⟨ke (fun z => h3 (by rw [z]; exact nF)) h1, h2, h3, h4⟩
/-! ### the walk -/
def RunK {α : Type} (res : R α) (K : α → Fr → Store → Prop) : Prop := match res with
  | .ok a f S => K a f S
  | _ => False
theorem RunK.bind {α β : Type} {P : Bs → Hp → List Addr → Fr → L2.St → Hp → α → α → Prop} {m : R α} {k : α → Fr → Store → R β} {K : β → Fr → Store → Prop} (h : RunK (m.bind k) K) :
    Run g WF P B F r σ m fun v H1 => ∃ a F' r' f S, Le F r F' r' ∧ SR g B F' r' f S σ H1 ∧ P B F' r' f σ H1 a v ∧ RunK (k a f S) K := by
  cases m with
  | ok a f S => exact fun F2 r2 H2 v l s p => ⟨a, F2, r2, f, S, l, s, p, h⟩
  | exc c fs f S => exact (show False from h).elim
  | bad => exact (show False from h).elim
theorem RunK.bindV {β : Type} {m : R D} {k : D → Fr → Store → R β} {K : β → Fr → Store → Prop} (h : RunK (m.bind k) K) :
    Run g WF (PD g) B F r σ m fun v H1 => ∃ a F' r' f S, Le F r F' r' ∧ SR g B F' r' f S σ H1 ∧ RepV g.K F' r' a v ∧ RunK (k a f S) K := by
  cases m with
  | ok a f S => exact fun F2 r2 H2 v l s p => ⟨a, F2, r2, f, S, l, s, p, h⟩
  | exc c fs f S => exact (show False from h).elim
  | bad => exact (show False from h).elim
/-- tests of a comprehension: none, or one -/
def tBs (g : G) (t : M Bool) : TT := tB g WF t
theorem snd_ifs0 : PTs X [] (tB g W (mPure true)) := ⟨fun pins s σ H Q I h => pts_nil.run pins s σ H Q I (mPB_run h)⟩
theorem snd_ifs1 {e : Expr} {t : M Bool} (h : PT X e (tB g W t)) : PTs X [e] (tB g W t) := pts_one h
theorem SR.lens (s : SR g B F r f S σ H) : f.length = σ.length := s.len
theorem putAll_length : ∀ {ks : List Nat} {ds : List D} {f f' : Fr}, putAll ks ds f = some f' → f'.length = f.length
  | [], [], _, _, h => by cases h; rfl
  | k :: ks, d :: ds, f, f', h => by rw [putAll_length (ks := ks) (ds := ds) h, List.length_set]
  | [], _ :: _, _, _, h => by cases h
  | _ :: _, [], _, _, h => by cases h
theorem put_length {t : Tg} {d : D} {f f' : Fr} (h : t.put d f = some f') : f'.length = f.length := by
  cases t with
  | n k => cases h; exact List.length_set
  | t ks =>
    cases d with
    | tup ds => exact putAll_length h
    | _ => cases h
theorem outside_ks {vs : List Nat} {t : Tg} (h : outside vs t = true) {k : Nat} (hk : k ∉ vs) : k ∉ Tg.ks t := fun m => by
  cases t with
  | n j =>
    rcases List.mem_cons.mp m with e | e
    · subst e
      exact hk (by simpa [outside] using h)
    · cases e
  | t ks =>
    have := List.all_eq_true.mp h k m
    exact hk (by simpa using this)
theorem comp_run {vs : List Nat} {t : Tg} {tst : M Bool} {elt : M D} {J : It} {ds : List D} {Q : VK} (y : Yields g B.Lk F r J ds) (s : SR g B F r f S σ H) (ho : outside vs t = true)
    (h : RunK (comp vs t tst elt g.cx ds [] f S) fun acc f' S' => ∀ F' r' H' a, Le F r F' r' → SR g B F' r' (wipeF f' vs) S' (wipe σ vs) H' → New g B F' r' (wipeF f' vs) (wipe σ vs) H' (.lst acc) a → Q (.ref a) H') (Dd : Addr) (hD : H Dd = none) :
    ∃ Wv : Nat → Nat → Hp → Prop, (∃ m, Wv 0 m (upd H Dd (.lst []))) ∧ ∀ i m H, Wv i m H → (J.stop i H ∧ Q (.ref Dd) H) ∨ (J.go i H ∧ ∃ Nx : Hp → Prop, (∀ H', Nx H' → ∃ m', m' < m ∧ Wv (i + 1) m' H') ∧
      ∀ x H', J.yld i H x H' → gT g.K t x (wipe σ vs) H' fun σ2 H2 => wipe σ2 vs = wipe σ vs ∧ tB g WF tst σ2 H2 fun b H3 => if b = true then tE g WF elt σ2 H3 fun y H4 => ∃ acc, H4 Dd = some (.lst acc) ∧ acc.length < sizeLine ∧ Nx (upd H4 Dd (.lst (acc ++ [y]))) else Nx H3) := by
  obtain ⟨n1, n2, n3, n4, n5, n6⟩ := s.free hD
  let K : List D → Fr → Store → Prop := fun acc f' S' => ∀ F' r' H' a, Le F r F' r' → SR g B F' r' (wipeF f' vs) S' (wipe σ vs) H' → New g B F' r' (wipeF f' vs) (wipe σ vs) H' (.lst acc) a → Q (.ref a) H'
  let Iv : Nat → Hp → Prop := fun i H => ∃ F2 r2 f2 S2 acc us, Le F r F2 r2 ∧ SR g B F2 r2 (wipeF f2 vs) S2 (wipe σ vs) H ∧ H Dd = some (.lst us) ∧ RepL g.K F2 r2 acc us ∧ F2 Dd = none ∧ Dd ∉ r2 ∧ (∀ k, ¬ ownAt (wipeF f2 vs) (wipe σ vs) k Dd) ∧ RunK (comp vs t tst elt g.cx (ds.drop i) acc f2 S2) K
  refine ⟨fun i m H => m = ds.length - i ∧ i ≤ ds.length ∧ Iv i H, ⟨ds.length, rfl, Nat.zero_le _, ?_⟩, ?_⟩
  · have s2 := (s.alloc hD (.lst [])).wiped vs
    refine ⟨F, r, f, S, [], [], .refl, s2, upd_same, .nil, n1, n2, fun k hk => ?_, h⟩
    obtain ⟨⟨d, z1⟩, z2⟩ := hk
    by_cases m : k ∈ vs
    · rw [wipeF_in f m] at z1
      split at z1 <;> cases z1
    · rw [wipeF_out f m] at z1
      rw [wipe_out m] at z2
      exact n4 k ⟨⟨d, z1⟩, z2⟩
  · rintro i m H ⟨rfl, hi, F2, r2, f2, S2, acc, us, l, s2, hH, ra, nF, nr, no, hk⟩
    obtain ⟨h1, h2, h3⟩ := y B F2 r2 _ S2 _ H rfl l s2
    by_cases hlt : i < ds.length
    · right
      refine ⟨h1 i hlt, Iv (i + 1), fun H' z => ⟨ds.length - (i + 1), by omega, rfl, hlt, z⟩, fun x H' hy => ?_⟩
      have s2p := s2.pinL hH rfl nF nr no
      obtain ⟨_, _, h3p⟩ := y (B.pinned Dd (.lst us)) F2 r2 _ S2 _ H rfl l s2p
      obtain ⟨F3, l3, s3, rp⟩ := h3p i ds[i] x H' (List.getElem?_eq_getElem hlt) hy
      rw [List.drop_eq_getElem_cons hlt] at hk
      unfold comp at hk
      cases hp : t.put ds[i] (wipeF f2 vs) with
      | none => rw [hp] at hk; exact (show False from hk).elim
      | some f' =>
        rw [hp] at hk
        dsimp only at hk
        refine gT_run s3 rp hp fun σ2 s4 hσ => ?_
        have hw : wipe σ2 vs = wipe σ vs := by
          refine wipe_same ?_ fun k hk => hσ k (outside_ks ho hk)
          have e1 := s4.len
          have e2 := put_length hp
          have e3 := s2.len
          rw [← e1, e2, e3, wipe_length]
        refine ⟨hw, ?_⟩
        have fin : ∀ {F5 r5 f5 S5 H5}, Le F r F5 r5 → SR g (B.pinned Dd (.lst us)) F5 r5 f5 S5 σ2 H5 → SR g B F5 r5 (wipeF f5 vs) S5 (wipe σ vs) H5 ∧ H5 Dd = some (.lst us) ∧ F5 Dd = none ∧ Dd ∉ r5 ∧ (∀ k, ¬ ownAt (wipeF f5 vs) (wipe σ vs) k Dd) := fun {F5 r5 f5 S5 H5} _ s5 => by
          have s6 := s5.wiped vs
          rw [hw] at s6
          obtain ⟨a1, a2, a3, a4, a5⟩ := s6.unpin n6
          exact ⟨a1, a2, a3, a4, a5⟩
        refine tM.mono (tM.of (P := PB) s4 (RunK.bind (P := PB) hk)) fun v H3 ⟨b, F4, r4, f4, S4, l4, s5, pb, hk2⟩ => ?_
        cases (show b = v from pb)
        cases v with
        | false =>
          obtain ⟨a1, a2, a3, a4, a5⟩ := fin ((l.trans l3).trans l4) s5
          exact ⟨F4, r4, f4, S4, acc, us, (l.trans l3).trans l4, a1, a2, (ra.le l3).le l4, a3, a4, a5, hk2⟩
        | true =>
          refine tM.mono (tM.of (P := PD g) s5 (RunK.bindV hk2)) fun w H4 ⟨d, F5, r5, f5, S5, l5, s6, pd, hk3⟩ => ?_
          obtain ⟨a1, a2, a3, a4, a5⟩ := fin (((l.trans l3).trans l4).trans l5) s6
          have ra5 := ((ra.le l3).le l4).le l5
          split at hk3
          · rename_i hlen
            refine ⟨us, a2, by rw [← ra5.length, lim_eq]; exact hlen, F5, r5, f5, S5, acc ++ [d], us ++ [w], ((l.trans l3).trans l4).trans l5, ?_, upd_same, ra5.append (.cons pd .nil), a3, a4, a5, hk3⟩
            exact a1.poke a2 a3 a4 n3 a5 n6
          · exact (show False from hk3).elim
    · left
      have e : i = ds.length := by omega
      subst e
      rw [List.drop_length] at hk
      exact ⟨h2, hk F2 r2 H Dd l s2 ⟨⟨us, hH, ra⟩, nF, nr, n3, no, n6⟩⟩
theorem New.back {f' : Fr} {vs : List Nat} {d : D} {a : Addr} (no : noOwn f vs = true) (n : New g B F r (wipeF f' vs) (wipe σ vs) H d a) : New g B F r (backF f f' vs) σ H d a :=
  ⟨n.co, n.nF, n.nr, n.nB, fun k ⟨⟨dd, h1⟩, h2⟩ => by
    by_cases m : k ∈ vs
    · rw [backF_in f f' m] at h1
      split at h1
      · cases e : f[k]? with
        | none => rw [e] at h1; cases h1
        | some sl =>
          rw [e] at h1
          cases h1
          have := List.all_eq_true.mp no k m
          rw [e] at this
          cases this
      · cases h1
    · rw [backF_out f f' m] at h1
      exact n.no k ⟨⟨dd, by rw [wipeF_out f' m]; exact h1⟩, by rw [wipe_out m]; exact h2⟩, n.np⟩
theorem mComp_run {vs : List Nat} {t : Tg} {mi : M (List D)} {tst : M Bool} {elt : M D} {Q : VK} (h : tX g W (mComp vs t mi tst elt) σ H Q) : tLc (tI g W mi) (gT g.K t) (tB g WF tst) (tE g WF elt) vs σ H Q := by
  obtain ⟨B, F, r, f, S, s, h⟩ := h
  replace h : Run g W (PX g) B F r σ ((mi g.cx f S).bind fun a f S => compK vs t tst elt a g.cx f S) Q := h
  refine tM.mono (tM.of (P := PIt g) s (Run.bind h)) fun J H1 ⟨ds, F1, r1, f1, S1, l1, s1, y, q1⟩ Dd hD => ?_
  unfold compK at q1
  split at q1
  · rename_i hc
    rw [Bool.and_eq_true] at hc
    refine comp_run y s1 hc.2 ?_ Dd hD
    revert q1
    cases comp vs t tst elt g.cx ds [] f1 S1 with
    | ok acc f' S' => exact fun q1 F' r' H' a l s' n => q1 F' r' H' _ l (s1.back hc.1 l s') (px_new (n.back hc.1))
    | exc c fs f S => exact fun q1 => q1.elim
    | bad => exact fun q1 => q1.elim
  · exact q1.elim
/-- [elt for tg in iter if ..] -/
theorem snd_comp (c : Good X W g q) (hN : q.N.Nodup) {elt tg iter : Expr} {ifs : List Expr} {scope : Scope} {own : List (Str × Nat)} {pos : Pos} {t : Tg} {mi : M (List D)} {tst : M Bool} {me : M D} (hi : PI X tg iter (tI g W mi)) (ok : blkC q.N q.sc scope own = true)
    (hg : ∀ X', Good X' WF g (q.blk scope) → PG X' tg (gT g.K t)) (ht : ∀ X', Good X' WF g (q.blk scope) → PTs X' ifs (tB g WF tst)) (he : ∀ X', Good X' WF g (q.blk scope) → PE X' elt (tE g WF me))
    (hs : ∀ x, foldedSetIterable iter X.env x = pure x := by intro _; rfl) : PE X (.ListComp elt [⟨tg, iter, ifs, 0⟩] scope pos) (tX g W (mComp (own.map (·.2)) t mi tst me)) :=
  PE.imp (pe_lc c.calm (by rw [c.N]; exact hN) hi (blkOk_by (by rw [c.N, c.sc]; exact ok)) (fun s H C cl fp => hg _ (c.blk s H scope cl C fp)) (fun s H C cl fp => ht _ (c.blk s H scope cl C fp)) (fun s H C cl fp => he _ (c.blk s H scope cl C fp)) hs) fun σ H Q h => mComp_run h
end
end Mi
set_option Elab.async false
set_option linter.all false
set_option maxRecDepth 100000
/-! Mi, part 16: what is changed in its place. -/
namespace Mi
open PySem PySem.Spec L2
/-- an object as the heap has it -/
inductive ObH (g : G) (F : Hp) (r : List Addr) : SO → HO → Prop
  | lst {ds : List D} {vs : List V} : RepL g.K F r ds vs → ObH g F r (.lst ds) (.lst vs)
  | dct {ds : List (Ky × D)} {vs : List (Key × V)} : RepK g.K F r ds vs → ObH g F r (.dct ds) (.dK vs)
section
variable {X : Cx} {g : G} {W : WX} {q : Qc} {B : Bs} {F F' H H' : Hp} {r r' : List Addr} {σ : L2.St} {f : Fr} {S : Store} {E : Ends}
theorem ObH.le {o : SO} {u : HO} (h : ObH g F r o u) (l : Le F r F' r') : ObH g F' r' o u := by
  cases h with
  | lst h => exact .lst (h.le l)
  | dct h => exact .dct (h.le l)
theorem ObR.h {o : SO} {a : Addr} (h : ObR g.K F r H o a) : ∃ u, H a = some u ∧ ObH g F r o u := by
  cases o with
  | lst ds => obtain ⟨vs, h1, h2⟩ := h; exact ⟨_, h1, .lst h2⟩
  | dct ds => obtain ⟨vs, h1, h2⟩ := h; exact ⟨_, h1, .dct h2⟩
theorem ObH.toR {o : SO} {u : HO} {a : Addr} (h : ObH g F r o u) (hu : H a = some u) : ObR g.K F r H o a := by
  cases h with
  | lst h => exact ⟨_, hu, h⟩
  | dct h => exact ⟨_, hu, h⟩
theorem ObH.ne {o : SO} {u : HO} (h : ObH g F r o u) : (∀ ps, u ≠ .tbl ps) ∧ (∀ φ, u ≠ .ext φ) ∧ (∀ fs, u ≠ .xd fs) ∧ isTbl u = false := by
  cases h with
  | lst h => exact ⟨fun _ e => HO.noConfusion e, fun _ e => HO.noConfusion e, fun _ e => HO.noConfusion e, rfl⟩
  | dct h => exact ⟨fun _ e => HO.noConfusion e, fun _ e => HO.noConfusion e, fun _ e => HO.noConfusion e, rfl⟩
theorem tabs_poke {a : Addr} {u u' : HO} {T : List (Addr × Str)} (t : LamX.Tabs T H) (hH : H a = some u) (n : (∀ ps, u ≠ .tbl ps) ∧ (∀ φ, u ≠ .ext φ)) : LamX.Tabs T (upd H a u') := fun p hp => by
  obtain ⟨ps, h1, h2, h3⟩ := t p hp
  have ne : ∀ {b : Addr} {w : HO}, H b = some w → w ≠ u → b ≠ a := fun e z y => by rw [y, hH] at e; cases e; exact z rfl
  refine ⟨ps, by rw [upd_ne (ne h1 fun z => n.1 ps z.symm)]; exact h1, h2, fun pos cv hc => ?_⟩
  obtain ⟨c, e1, e2⟩ := h3 pos cv hc
  refine ⟨c, e1, ?_⟩
  rw [upd_ne (ne e2 fun z => n.2 _ z.symm)]
  exact e2
/-- what no one else holds, and is told by no name, changes -/
theorem SR.pokeO {a : Addr} {o : SO} {u u' : HO} (s : SR g B F r f S σ H) (hH : H a = some u) (hu : ObH g F r o u) (nF : F a = none) (nr : a ∉ r) (nB : B.H a = none) (no : ∀ k, ¬ ownAt f σ k a) (np : B.P a = none) : SR g B F r f S σ (upd H a u') := by
  obtain ⟨m1, m2, m3, m4⟩ := hu.ne
  have ne : ∀ {b : Addr} {w : HO}, H b = some w → w ≠ u → b ≠ a := fun e z y => by rw [y, hH] at e; cases e; exact z rfl
  have ke : ∀ {b : Addr} {w : HO}, b ≠ a → H b = some w → upd H a u' b = some w := fun e h => by rw [upd_ne e]; exact h
  have obr : ∀ {o : SO} {b : Addr}, b ≠ a → ObR g.K F r H o b → ObR g.K F r (upd H a u') o b := fun {o b} e z => by
    cases o with
    | lst ds => obtain ⟨vs, z1, z2⟩ := z; exact ⟨vs, ke e z1, z2⟩
    | dct ds => obtain ⟨vs, z1, z2⟩ := z; exact ⟨vs, ke e z1, z2⟩
  have cor : ∀ {d : D} {b : Addr}, b ≠ a → CoR g.K F r H d b → CoR g.K F r (upd H a u') d b := fun {d b} e z => by
    cases d with
    | lst ds => obtain ⟨vs, z1, z2⟩ := z; exact ⟨vs, ke e z1, z2⟩
    | dct ds => obtain ⟨vs, z1, z2⟩ := z; exact ⟨vs, ke e z1, z2⟩
    | _ => exact z
  refine ⟨⟨fun b u e => ?_, s.e1.fro, s.e1.len, fun i o b h1 h2 => obr (fun e => nr (by rw [← e]; exact List.mem_of_getElem? h2)) (s.e1.sto i o b h1 h2), s.e1.rnd, s.e1.rF, tabs_poke s.e1.tabs hH ⟨m1, m2⟩, s.e1.tF, s.e1.tr⟩, s.len, fun k sl e => ?_, s.ow, s.od, ⟨s.bs.le, fun b h => ?_, fun b o h1 h2 h3 => ?_, s.bs.nF, s.bs.nr⟩, fun b o h => ?_, fun b o h => ?_⟩
  · have hb : b ≠ a := fun z => by rw [z, nF] at e; cases e
    rcases s.e1.hold b u e with z | ⟨kvs, o, z1, z2⟩
    · exact .inl (ke hb z)
    · exact .inr ⟨kvs, o, z1, ke hb z2⟩
  · have z := s.slot k sl e
    cases sl with
    | un => trivial
    | val d => exact z
    | own d =>
      obtain ⟨b, z1, z2⟩ := z
      exact ⟨b, z1, cor (fun y => no k (by rw [← y]; exact ⟨⟨d, e⟩, z1⟩)) z2⟩
    | ex fs => obtain ⟨a', dd, ws, z1, z2, z3, z4⟩ := z; exact ⟨a', dd, ws, z1, z2, ke (ne z3 fun z => m3 _ z.symm) z3, z4⟩
    | lam => obtain ⟨a', c, q, z1, z2, z3⟩ := z; exact ⟨a', c, q, z1, z2, ke (ne z3 fun z => m2 _ z.symm) z3⟩
  · by_cases e : b = a
    · exact absurd (by rw [e]; exact nB) h
    · rw [upd_ne e]; exact s.bs.there b h
  · have hb : b ≠ a := fun z => by rw [z, nB] at h1; cases h1
    rcases s.bs.keep b o h1 h2 h3 with z | ⟨z1, ob, z2⟩
    · exact .inl (ke hb z)
    · exact .inr ⟨z1, ob, ke hb z2⟩
  · have hb : b ≠ a := fun z => by rw [z, np] at h; cases h
    obtain ⟨h1, h2⟩ := s.pin b o h
    exact ⟨ke hb h1, h2⟩
  · obtain ⟨h1, h2, h3, h4⟩ := s.lck b o h
    exact ⟨ke (fun z => h3 (by rw [z]; exact nF)) h1, h2, h3, h4⟩
/-- a shared object changes -/
theorem SR.pokeS {i : Nat} {a : Addr} {o o' : SO} {u u' : HO} (s : SR g B F r f S σ H) (hi : S[i]? = some o) (ha : r[i]? = some a) (hH : H a = some u) (hu : ObH g F r o u) (hu' : ObH g F r o' u') : SR g B F r f (S.set i o') σ (upd H a u') := by
  obtain ⟨m1, m2, m3, m4⟩ := hu.ne
  have hm : a ∈ r := List.mem_of_getElem? ha
  have ne : ∀ {b : Addr} {w : HO}, H b = some w → w ≠ u → b ≠ a := fun e z y => by rw [y, hH] at e; cases e; exact z rfl
  have ke : ∀ {b : Addr} {w : HO}, b ≠ a → H b = some w → upd H a u' b = some w := fun e h => by rw [upd_ne e]; exact h
  have obr : ∀ {o : SO} {b : Addr}, b ≠ a → ObR g.K F r H o b → ObR g.K F r (upd H a u') o b := fun {o b} e z => by
    cases o with
    | lst ds => obtain ⟨vs, z1, z2⟩ := z; exact ⟨vs, ke e z1, z2⟩
    | dct ds => obtain ⟨vs, z1, z2⟩ := z; exact ⟨vs, ke e z1, z2⟩
  have cor : ∀ {d : D} {b : Addr}, b ≠ a → CoR g.K F r H d b → CoR g.K F r (upd H a u') d b := fun {d b} e z => by
    cases d with
    | lst ds => obtain ⟨vs, z1, z2⟩ := z; exact ⟨vs, ke e z1, z2⟩
    | dct ds => obtain ⟨vs, z1, z2⟩ := z; exact ⟨vs, ke e z1, z2⟩
    | _ => exact z
  refine ⟨⟨fun b u e => ?_, s.e1.fro, by rw [List.length_set]; exact s.e1.len, fun j p b h1 h2 => ?_, s.e1.rnd, s.e1.rF, tabs_poke s.e1.tabs hH ⟨m1, m2⟩, s.e1.tF, s.e1.tr⟩, s.len, fun k sl e => ?_, s.ow, s.od, ⟨s.bs.le, fun b h => ?_, fun b o h1 h2 h3 => ?_, s.bs.nF, s.bs.nr⟩, fun b o h => ?_, fun b o h => ?_⟩
  · have hb : b ≠ a := fun z => by rw [z, s.e1.rF a hm] at e; cases e
    rcases s.e1.hold b u e with z | ⟨kvs, o, z1, z2⟩
    · exact .inl (ke hb z)
    · exact .inr ⟨kvs, o, z1, ke hb z2⟩
  · by_cases e : i = j
    · subst e
      rw [List.getElem?_set_self (List.getElem?_eq_some_iff.mp hi).1] at h1
      cases h1
      rw [ha] at h2
      cases h2
      exact hu'.toR upd_same
    · rw [List.getElem?_set_ne e] at h1
      have hb : b ≠ a := fun z => by
        subst z
        obtain ⟨l1, e1⟩ := List.getElem?_eq_some_iff.mp ha
        obtain ⟨l2, e2⟩ := List.getElem?_eq_some_iff.mp h2
        exact e ((List.getElem_inj s.e1.rnd).mp (e1.trans e2.symm))
      exact obr hb (s.e1.sto j p b h1 h2)
  · have z := s.slot k sl e
    cases sl with
    | un => trivial
    | val d => exact z
    | own d =>
      obtain ⟨b, z1, z2⟩ := z
      exact ⟨b, z1, cor (fun y => (s.ow k b ⟨⟨d, e⟩, z1⟩).2.1 (by rw [y]; exact hm)) z2⟩
    | ex fs => obtain ⟨a', dd, ws, z1, z2, z3, z4⟩ := z; exact ⟨a', dd, ws, z1, z2, ke (ne z3 fun z => m3 _ z.symm) z3, z4⟩
    | lam => obtain ⟨a', c, q, z1, z2, z3⟩ := z; exact ⟨a', c, q, z1, z2, ke (ne z3 fun z => m2 _ z.symm) z3⟩
  · by_cases e : b = a
    · exact ⟨_, by rw [e, upd_same], hu'.ne.2.2.2⟩
    · rw [upd_ne e]; exact s.bs.there b h
  · have hb : b ≠ a := fun z => by
      rcases s.bs.nr a hm with y | y
      · exact h3 (by rw [z]; exact y)
      · rw [z, y] at h1; cases h1
    rcases s.bs.keep b o h1 h2 h3 with z | ⟨z1, ob, z2⟩
    · exact .inl (ke hb z)
    · exact .inr ⟨z1, ob, ke hb z2⟩
  · obtain ⟨h1, h2, h3, h4, h5⟩ := s.pin b o h
    exact ⟨ke (fun z => h4 (by rw [z]; exact hm)) h1, h2, h3, h4, h5⟩
  · obtain ⟨h1, h2, h3, h4⟩ := s.lck b o h
    exact ⟨ke (fun z => h4 (by rw [z]; exact hm)) h1, h2, h3, h4⟩
/-- the object of a name -/
theorem SR.obj (s : SR g B F r f S σ H) {k : Nat} {o : SO} (h : obj f S k = some o) : ∃ a u, σ[k]? = some (some (.ref a)) ∧ H a = some u ∧ ObH g F r o u := by
  unfold Mi.obj at h
  split at h
  · rename_i ds e
    cases h
    obtain ⟨a, h1, h2⟩ := s.slot k _ e
    obtain ⟨vs, z1, z2⟩ := h2
    exact ⟨a, _, h1, z1, .lst z2⟩
  · rename_i ds e
    cases h
    obtain ⟨a, h1, h2⟩ := s.slot k _ e
    obtain ⟨vs, z1, z2⟩ := h2
    exact ⟨a, _, h1, z1, .dct z2⟩
  · rename_i i e
    obtain ⟨v, h1, h2⟩ := s.slot k _ e
    cases h2 with
    | ref h2 =>
      obtain ⟨u, z1, z2⟩ := (s.e1.sto i o _ h h2).h
      exact ⟨_, u, h1, z1, z2⟩
  · cases h
theorem CoR.ofO {o : SO} {u : HO} {a : Addr} (h : ObH g F r o u) (hu : H a = some u) : CoR g.K F r H o.d a := by
  cases h with
  | lst h => exact ⟨_, hu, h⟩
  | dct h => exact ⟨_, hu, h⟩
theorem SR.upObj (s : SR g B F r f S σ H) {k : Nat} {o o' : SO} {a : Addr} {u' : HO} (h : Mi.obj f S k = some o) (ha : σ[k]? = some (some (.ref a))) (hu' : ObH g F r o' u') : SR g B F r (upF f k o') (upS f S k o') σ (upd H a u') := by
  have own : ∀ {d : D}, f[k]? = some (.own d) → SR g B F r (upF f k o') (upS f S k o') σ (upd H a u') := fun {d} e => by
    have eF : upF f k o' = f.set k (.own o'.d) := by unfold upF; rw [e]
    have eS : upS f S k o' = S := by unfold upS; rw [e]
    rw [eF, eS]
    have hk : ownAt f σ k a := ⟨⟨d, e⟩, ha⟩
    obtain ⟨k1, k2, k3⟩ := s.ow k a hk
    obtain ⟨a', u, h1, h2, h3⟩ := s.obj h
    rw [ha] at h1
    cases h1
    have s0 := s.setSl (i := k) (sl := .un) (fun d e => by cases e) trivial
    have no : ∀ j, ¬ ownAt (f.set k .un) σ j a := fun j hj => by
      obtain ⟨e1, e2⟩ := ownAt_ne (fun d e => by cases e) hj
      exact e1 (s.od j k a e2 hk)
    have np : B.P a = none := by
      cases e : B.P a with
      | none => rfl
      | some w => exact absurd hk ((s.pin a w e).2.2.2.2 k)
    have s1 := s0.pokeO (u' := u') h2 h3 k1 k2 k3 no np
    have n : New g B F r (f.set k .un) σ (upd H a u') o'.d a := ⟨CoR.ofO hu' upd_same, k1, k2, k3, no, np⟩
    have s2 := s1.assign (i := k) (d := (o'.d, true)) (v := .ref a) (by unfold RX; rw [if_pos rfl]; exact ⟨a, rfl, n⟩)
    rw [List.set_set] at s2
    have eσ : σ.set k (some (.ref a)) = σ := by
      apply List.ext_getElem?
      intro j
      by_cases ej : k = j
      · subst ej
        rw [List.getElem?_set_self', ha]
        rfl
      · rw [List.getElem?_set_ne ej]
    rw [eσ] at s2
    exact s2
  have h0 := h
  unfold Mi.obj at h
  split at h
  · rename_i ds e; exact own e
  · rename_i ds e; exact own e
  · rename_i i e
    have eF : upF f k o' = f := by unfold upF; rw [e]
    have eS : upS f S k o' = S.set i o' := by unfold upS; rw [e]
    rw [eF, eS]
    obtain ⟨v, h1, h2⟩ := s.slot k _ e
    rw [ha] at h1
    cases h1
    cases h2 with
    | ref h2 =>
      obtain ⟨u, z1, z2⟩ := (s.e1.sto i o _ h h2).h
      exact s.pokeS h h2 z1 z2 hu'
  · cases h
/-! ### methods -/
/-- h is what the method does -/
def PrimM (g : G) (h : SO → List D → Option (SO × D)) (rr : V → List V → Hp → VK → Prop) : Prop :=
  ∀ (F : Hp) (r : List Addr) (S : Store) (H : Hp) (a : Addr) (u : HO) (o o' : SO) (d : D) (ds : List D) (vs : List V) (Q : VK), E1 g F r S H → H a = some u → ObH g F r o u → RepL g.K F r ds vs → h o ds = some (o', d) →
    (∀ v u', RepV g.K F r d v → ObH g F r o' u' → Q v (upd H a u')) → rr (.ref a) vs H Q
def tyN (L : Bool) : String := if L = true then "list" else "dict"
theorem tyV_of {o : SO} {u : HO} {a : Addr} {K : PySem.W.Frag} (h : ObH g F r o u) (hu : H a = some u) : tyV K (tyN o.isL) (.ref a) H := by
  cases h with
  | lst h => exact .inl ⟨rfl, _, SqL.of hu⟩
  | dct h => exact .inr (.inr (.inl ⟨rfl, .inl ⟨_, hu⟩⟩))
theorem mMut_run {L : Bool} {K : PySem.W.Frag} {k : Nat} {ms : List (M D)} {h : SO → List D → Option (SO × D)} {rr : V → List V → Hp → VK → Prop} {Q : VK} (p : PrimM g h rr) (hk : tE g W (mMut L k ms h) σ H Q) :
    tVar k σ H fun x H1 => tyV K (tyN L) x H1 ∧ tAlls g W ms σ H1 fun vs H2 => rr x vs H2 Q := by
  obtain ⟨B, F, r, f, S, s, hk⟩ := hk
  replace hk : Run g W (PD g) B F r σ (match obj f S k with
    | none => .bad
    | some o => if o.isL = L then mBind (mAll ms) (mutK k h) g.cx f S else .bad) Q := hk
  cases e : obj f S k with
  | none => rw [e] at hk; exact hk.elim
  | some o =>
    rw [e] at hk
    dsimp only at hk
    split at hk
    · rename_i hL
      obtain ⟨a, u, h1, h2, h3⟩ := s.obj e
      refine ⟨_, h1, by rw [← hL]; exact tyV_of h3 h2, ?_⟩
      refine tAlls_mono (mAll_then (P := PD g) (tM.of (m := mBind (mAll ms) (mutK k h)) s hk)) fun vs H1 ⟨B, ds, F, r, f, S, s, rp, z⟩ => ?_
      unfold mutK at z
      cases e : obj f S k with
      | none => rw [e] at z; exact z.elim
      | some o =>
        rw [e] at z
        dsimp only at z
        cases e2 : h o ds with
        | none => rw [e2] at z; exact z.elim
        | some od =>
          obtain ⟨o', d⟩ := od
          rw [e2] at z
          obtain ⟨a', u, k1, k2, k3⟩ := s.obj e
          rw [h1] at k1
          cases k1
          exact p F r S H1 a u o o' d ds vs Q s.e1 k2 k3 rp e2 fun v u' rv ru => Run.ok (P := PD g) (a := d) z (s.upObj e h1 ru) rv
    · exact hk.elim
theorem prim_app : PrimM g hApp rAppend := by
  intro F r S H a u o o' d ds vs Q e hH ho rp h q
  unfold hApp at h
  split at h
  · rename_i es dd
    split at h
    · rename_i hl
      cases h
      cases ho with
      | lst ho =>
        cases rp with
        | cons r1 r2 =>
          cases r2
          exact ⟨a, _, _, rfl, rfl, hH, by rw [← ho.length, lim_eq]; exact hl, q .non _ .non (.lst (ho.append (.cons r1 .nil)))⟩
    · cases h
  · cases h
theorem prim_ext : PrimM g hExt rExtend := by
  intro F r S H a u o o' d ds vs Q e hH ho rp h q
  unfold hExt at h
  split at h
  · rename_i es dd
    split at h
    · rename_i hl
      cases h
      cases ho with
      | lst ho =>
        cases rp with
        | cons r1 r2 =>
          cases r2
          cases r1 with
          | @lst b ws _ y1 y2 => exact ⟨a, b, _, ws, rfl, rfl, hH, e.lst y1, by rw [← ho.length, ← y2.length, lim_eq]; exact hl, q .non _ .non (.lst (ho.append y2))⟩
    · cases h
  · cases h
theorem prim_pop : PrimM g hPop rPop := by
  intro F r S H a u o o' d ds vs Q e hH ho rp h q
  unfold hPop at h
  split at h
  · rename_i es
    cases ex : es[es.length - 1]? with
    | none => rw [ex] at h; cases h
    | some dd =>
      rw [ex] at h
      cases h
      cases ho with
      | lst ho =>
        cases rp
        obtain ⟨v, z1, z2⟩ := ho.get ex
        exact ⟨a, _, v, rfl, rfl, hH, by rw [← ho.length]; exact z1, q v _ z2 (.lst ho.dropLast)⟩
  · cases h
theorem prim_popAt : PrimM g hPopAt rPopAt := by
  intro F r S H a u o o' d ds vs Q e hH ho rp h q
  unfold hPopAt at h
  split at h
  · rename_i es i
    split at h
    · rename_i hb
      rw [Bool.and_eq_true, decide_eq_true_eq, decide_eq_true_eq] at hb
      cases ek : PySem.seqIndex? i es.length with
      | none => rw [ek] at h; cases h
      | some k =>
        rw [ek] at h
        dsimp only at h
        cases ex : es[k]? with
        | none => rw [ex] at h; cases h
        | some dd =>
          rw [ex] at h
          cases h
          cases ho with
          | lst ho =>
            cases rp with
            | cons r1 r2 =>
              cases r2
              cases r1
              obtain ⟨v, z1, z2⟩ := ho.get ex
              exact ⟨a, _, i, k, v, rfl, rfl, hH, hb.1, hb.2, by rw [← ho.length]; exact ek, z1, q v _ z2 (.lst (ho.eraseIdx k))⟩
    · cases h
  · cases h
theorem snd_append (c : Good X W g q) {k : Nat} {x : Str} {e : Expr} {m : M D} {p apos cpos : Pos} (hN : q.N[k]? = some x) (hv : Vis q.sc x) (he : PE X e (tE g W m)) (hdb : (x == ("__debug__" : Str)) = false := by decide) (hcd : (x == ("__classdict__" : Str)) = false := by decide)
    (hs : starEach [e] X.env = (false, eval e X.env) :: starEach [] X.env := by rfl) (hline : (apos.endLine == cpos.line) = true := by rfl) : PE X (.Call (.Attribute (.Name x p) "append" apos) [e] [] cpos) (tE g W (mMut true k [m] hApp)) :=
  PE.imp (pe_bm F.plainAttrs_list F.slot_list_append F.type_list_append mt_append (c.var hN hv hdb hcd) (pa_cons he pa_nil hs) rfl (by rw [hs]; rfl) hline hs) fun σ H Q h => mMut_run prim_app h
theorem snd_extend (c : Good X W g q) {k : Nat} {x : Str} {e : Expr} {m : M D} {p apos cpos : Pos} (hN : q.N[k]? = some x) (hv : Vis q.sc x) (he : PE X e (tE g W m)) (hdb : (x == ("__debug__" : Str)) = false := by decide) (hcd : (x == ("__classdict__" : Str)) = false := by decide)
    (hs : starEach [e] X.env = (false, eval e X.env) :: starEach [] X.env := by rfl) (hline : (apos.endLine == cpos.line) = true := by rfl) : PE X (.Call (.Attribute (.Name x p) "extend" apos) [e] [] cpos) (tE g W (mMut true k [m] hExt)) :=
  PE.imp (pe_bm F.plainAttrs_list F.slot_list_extend F.type_list_extend mt_extend (c.var hN hv hdb hcd) (pa_cons he pa_nil hs) rfl (by rw [hs]; rfl) hline hs) fun σ H Q h => mMut_run prim_ext h
theorem snd_popAt (c : Good X W g q) {k : Nat} {x : Str} {e : Expr} {m : M D} {p apos cpos : Pos} (hN : q.N[k]? = some x) (hv : Vis q.sc x) (he : PE X e (tE g W m)) (hdb : (x == ("__debug__" : Str)) = false := by decide) (hcd : (x == ("__classdict__" : Str)) = false := by decide)
    (hs : starEach [e] X.env = (false, eval e X.env) :: starEach [] X.env := by rfl) (hline : (apos.endLine == cpos.line) = true := by rfl) : PE X (.Call (.Attribute (.Name x p) "pop" apos) [e] [] cpos) (tE g W (mMut true k [m] hPopAt)) :=
  PE.imp (pe_bm F.plainAttrs_list F.slot_list_pop F.type_list_pop mt_popAt (c.var hN hv hdb hcd) (pa_cons he pa_nil hs) rfl (by rw [hs]; rfl) hline hs) fun σ H Q h => mMut_run prim_popAt h
theorem snd_pop (c : Good X W g q) {k : Nat} {x : Str} {p apos cpos : Pos} (hN : q.N[k]? = some x) (hv : Vis q.sc x) (hdb : (x == ("__debug__" : Str)) = false := by decide) (hcd : (x == ("__classdict__" : Str)) = false := by decide)
    (hline : (apos.endLine == cpos.line) = true := by rfl) : PE X (.Call (.Attribute (.Name x p) "pop" apos) [] [] cpos) (tE g W (mMut true k [] hPop)) :=
  PE.imp (pe_bm0 F.plainAttrs_list F.slot_list_pop F.type_list_pop mt_pop (c.var hN hv hdb hcd) rfl hline) fun σ H Q h => mMut_run (ms := []) prim_pop h
/-! ### xs[i] = v -/
theorem PSet.or {t t' : TSet} (h : PSet X t) (h' : PSet X t') : PSet X (fun o i v H Q => t o i v H Q ∨ t' o i v H Q) := by
  intro pins s σ H o i v ov iv u Q I r1 r2 r3 hq
  rcases hq with hq | hq
  · exact h pins s σ H o i v ov iv u Q I r1 r2 r3 hq
  · exact h' pins s σ H o i v ov iv u Q I r1 r2 r3 hq
theorem snd_put (c : Good X W g q) {k : Nat} {x : Str} {e i : Expr} {m : M D} {oi : Op} {p pos pos' : Pos} (hN : q.N[k]? = some x) (hv : Vis q.sc x) (hi : PE X i (tOp1 g W oi)) (he : PE X e (tE g W m)) (hdb : (x == ("__debug__" : Str)) = false := by decide) (hcd : (x == ("__classdict__" : Str)) = false := by decide)
    (hs : swapsWithSole [.Subscript (.Name x p) i pos'] e pos.line X.env = pure false := by rfl) (hw : swappedStores [.Subscript (.Name x p) i pos'] e X.env = pure none := by rfl)
    (ha : ∀ v, assign (.Subscript (.Name x p) i pos') X.env v = (do
      let ov ← holding [v] (eval (.Name x p) X.env)
      let iv ← holding [v, ov] (eval i X.env)
      standAt pos'
      holding [v, ov, iv] (setItem ov iv v)
      release [v, ov, iv] []) := by intro _; rfl) : PS X (.Assign [.Subscript (.Name x p) i pos'] e pos) (tS g W (sPut k oi m hPut)) :=
  PS.imp (ps_asg he (pg_sub (c.var hN hv hdb hcd) hi (PSet.or set_list (set_dict (by have := c.un; omega))) ha) hs hw rfl) fun D σ H ⟨B, F, r, f, S, s, h⟩ => by
    refine tM.mono (tS_then (P := PD g) s h) fun v H1 ⟨d, F1, r1, f1, S1, l1, s1, pd, z⟩ => ?_
    cases e1 : peek f1 k with
    | none => rw [e1] at z; exact z.elim
    | some d0 =>
      rw [e1] at z
      dsimp only at z
      obtain ⟨v0, k1, _⟩ := s1.peek e1
      refine ⟨v0, k1, ?_⟩
      have z' : tOp1 g W oi σ H1 fun y H2 => ∃ xx F' r' f S, Le F1 r1 F' r' ∧ SR g B F' r' f S σ H2 ∧ PO1 g F' r' σ xx y ∧ RunS g W B F' r' (match opR f xx, obj f S k with
        | some i, some o => (match hPut o i d with
          | some o' => .nx (upF f k o') (upS f S k o')
          | none => .bad)
        | _, _ => .bad) D := opE_run s1 (Run.thenS (P := POp g) z)
      refine tOp1.mono z' fun y H2 ⟨xx, F2, r2, f2, S2, l2, s2, po, z⟩ => ?_
      cases e2 : opR f2 xx with
      | none => rw [e2] at z; exact z.elim
      | some ii =>
        cases e3 : obj f2 S2 k with
        | none => rw [e2, e3] at z; exact z.elim
        | some o =>
          rw [e2, e3] at z
          dsimp only at z
          obtain ⟨a, u, y1, y2, y3⟩ := s2.obj e3
          rw [k1] at y1
          cases y1
          have bi := s2.opR po e2
          cases e4 : hPut o ii d with
          | none => rw [e4] at z; exact z.elim
          | some o' =>
            rw [e4] at z
            dsimp only at z
            have fin : ∀ {u'}, ObH g F2 r2 o' u' → D.nx σ (upd H2 a u') := fun ru => RunS.nx z (s2.upObj e3 k1 ru)
            cases o with
            | lst ds =>
              cases ii with
              | int j =>
                replace e4 : (ixN ds.length j).map (fun jj => SO.lst (ds.set jj d)) = some o' := e4
                cases hj : ixN ds.length j with
                | none => rw [hj] at e4; cases e4
                | some jj =>
                  rw [hj] at e4
                  cases e4
                  cases y3 with
                  | lst y3 =>
                    refine .inl ⟨a, _, j, jj, rfl, bi.int, y2, ?_, fin (.lst (y3.set jj (pd.le l2)))⟩
                    rw [← y3.length]
                    exact hj
              | _ => cases e4
            | dct kvs =>
              replace e4 : (match asKy ii with
                | some k => if kvs.length < LIM then some (.dct (putKy kvs k d)) else none
                | none => none : Option SO) = some o' := e4
              cases hk : asKy ii with
              | none => rw [hk] at e4; cases e4
              | some kk =>
                rw [hk] at e4
                dsimp only at e4
                split at e4
                · rename_i hl
                  cases e4
                  cases y3 with
                  | @dct _ vs y3 =>
                    exact .inr ⟨a, _, rfl, .inl ⟨vs, kyK kk, y2, asKy_V bi hk, by rw [← y3.length, lim_eq]; exact hl, rfl⟩, fin (.dct (y3.put kk (pd.le l2)))⟩
                · cases e4
end
end Mi
set_option Elab.async false
set_option linter.all false
set_option maxRecDepth 100000
/-! Mi, part 18: several except clauses, each with a name or without. -/
namespace Mi
open PySem PySem.Spec L2
/-- the ends behind a clause's suite: its name is gone -/
def endsAs (D : Ends) : Option Nat → Ends
  | none => D
  | some i => { nx := fun σ' H' => D.nx (σ'.set i none) H', rt := D.rt, bk := fun σ' H' => D.bk (σ'.set i none) H', ct := fun σ' H' => D.ct (σ'.set i none) H' }
def slotAs (σ : L2.St) (a : Addr) : Option Nat → L2.St
  | none => σ
  | some i => σ.set i (some (.ref a))
abbrev Hd := Value × Option Nat × (Addr → Value → Option Addr → TS)
/-- what the clauses wish -/
def wAny (K : PySem.W.Frag) (Wout : WX) (D : Ends) : List Hd → WX
  | [] => Wout
  | (c, oi, ts) :: r => fun cls d σ H => ∃ b, PySem.W.exmOne K cls c = some b ∧ (b = true → ∀ a, H a = none → ts a cls d (endsAs D oi) (slotAs σ a oi) H) ∧ (b = false → wAny K Wout D r cls d σ H)
inductive HdsA (X : Cx) : List ExceptHandler → List Hd → Prop
  | nil : HdsA X [] []
  | cons {x : Str} {c : Value} {ts : Addr → Value → Option Addr → TS} {b₀ : Stmt} {suite : List Stmt} {np pos' : Pos} {hds : List ExceptHandler} {l : List Hd} (hc : Names X x c)
      (hsu : ∀ (a : Addr) (oe : Obj) (cls : Value) (d : Option Addr) (pn : List (Addr × Obj)), Zc cls d oe → (∃ vs, oe.data = .fields vs) → PSs (X.suite a ((a, oe) :: pn)) (b₀ :: suite) (ts a cls d)) (r : HdsA X hds l) :
      HdsA X (.ExceptHandler (some (.Name x np)) none (b₀ :: suite) pos' :: hds) ((c, none, ts) :: l)
  | consAs {x n : Str} {i : Nat} {c : Value} {ts : Addr → Value → Option Addr → TS} {b₀ : Stmt} {suite : List Stmt} {np pos' : Pos} {hds : List ExceptHandler} {l : List Hd} (hi : X.N[i]? = some n) (hln : X.env.kindOf n = some .local) (hc : Names X x c)
      (hsu : ∀ (a : Addr) (oe : Obj) (cls : Value) (d : Option Addr) (pn : List (Addr × Obj)), Zc cls d oe → (∃ vs, oe.data = .fields vs) → PSs (X.suite a ((a, oe) :: pn)) (b₀ :: suite) (ts a cls d)) (r : HdsA X hds l) :
      HdsA X (.ExceptHandler (some (.Name x np)) (some n) (b₀ :: suite) pos' :: hds) ((c, some i, ts) :: l)
section
variable {X : Cx} {body : List Stmt} {h₀ : ExceptHandler} {hds : List ExceptHandler} {l : List Hd} {pos : Pos} {tb : WX → TS} {Wout : WX}
theorem ps_try_any (hs : X.stack = X.env :: X.outer) (hf : X.env.frame = some X.env.locals) (hN : X.N.Nodup) (tk : Takes X Wout)
    (hb : ∀ (W : WX) (pn : List (Addr × Obj)) (xe : Value → Shared → Prop), Takes (X.tr pn xe) W → PassesOwn (model X.prog X.w) X.A X.env xe → PSs (X.tr pn xe) body (tb W))
    (hh : HdsA X (h₀ :: hds) l) : PS X (.Try body (h₀ :: hds) [] [] pos) (fun D σ H => tb (wAny X.K Wout D l) D σ H) := by
  refine ⟨fun pins s σ H D I h => ?_⟩
  have ok := I.ok
  have hfr : X.A.frames = some (X.env :: X.outer) := by rw [ok.frames, hs]
  refine wpAny_Try_except ?_
  refine wpAny_mono ((hb (wAny X.K Wout D l) (X.pn ++ pins) (fun e s₁ => wpAny (model X.prog X.w) X.A (noteFrame e X.env) (fun _ s₂ => wpAny (model X.prog X.w) X.A (setFlight e none) (fun _ s₃ =>
    wpAny (model X.prog X.w) X.A (handleBy e X.env (h₀ :: hds)) (SP X pins D) X.xe s₃) X.xe s₂) X.xe s₁) (fun u s' xx => ?_) PassesOwn.looking).run [] s σ H D (I.toTry _) h) (fun f s1 hsp => ?_) (fun e s1 he => he)
  · obtain ⟨a, B, sI, pins', σ', H', cls, d, rfl, J', nb, up, sky, na, os, ag, w⟩ := xx
    have J : Inv X pins σ' H' sI := J'.ofTry ok
    have sky' : Sky B (X.env :: X.outer) a (Zc cls d) X.env.locals s'.heap := by rw [← hs]; exact sky
    show wpAny (model X.prog X.w) X.A (noteFrame (.ref a) X.env) _ _ _
    refine Sky.land Zc.steady hfr hf sky' fun h3 fl3 up3 => ?_
    have J3 : Inv X pins σ' H' { s' with heap := h3 } := J.landed nb fl3.1 (up.trans up3) os ag
    obtain ⟨oe3, vs3, he3, hz3, hd3⟩ := fl3.there
    have nfr : a ∉ frs (X.env :: X.outer) := fun hm => by
      obtain ⟨_, o', e', hnf⟩ := fl3.2.2.1.mem hm
      rw [he3] at e'; cases e'
      exact hnf _ hd3
    have nL : a ≠ X.env.locals := fun z => nfr (List.mem_filterMap.mpr ⟨X.env, List.mem_cons_self, by rw [hf, z]⟩)
    have nF : a ∉ X.fs := fun hm => by
      obtain ⟨e, he, q⟩ := List.mem_filterMap.mp hm
      exact nfr (List.mem_filterMap.mpr ⟨e, List.mem_cons_of_mem _ he, q⟩)
    have S3 := J3.suite he3 hd3 na nL nF
    have LT : PySem.W.Looks (model X.prog X.w) h3 (typeOf (.ref a)) cls := fun A Q E s k q => wpAny_typeOf_ref (k _ _ he3) (by rw [hz3.1]; exact q)
    have test : ∀ {x : Str} {c : Value} {np : Pos} {Q : Value → Shared → Prop} {E : Value → Shared → Prop}, Names X x c → Q c { s' with heap := h3 } → wpAny (model X.prog X.w) (X.A.mark (some (.ref a))) (eval (.Name x np) X.env) Q E { s' with heap := h3 } := fun {x c np Q E} hc q => by
      obtain ⟨hg, hdbg, hm | ⟨hm, hv, hnn⟩⟩ := hc
      · exact ld_glob (X := X.suite a ((a, oe3) :: (X.pn ++ pins))) S3 hg hm q hdbg
      · exact ld_blt (X := X.suite a ((a, oe3) :: (X.pn ++ pins))) S3 hg hm hv q hnn hdbg
    have go : ∀ {hds' : List ExceptHandler} {l' : List Hd}, HdsA X hds' l' → wAny X.K Wout D l' cls d σ' H' →
        wpAny (model X.prog X.w) X.A (handleBy (.ref a) X.env hds') (SP X pins D) X.xe { s' with heap := h3 } := by
      intro hds' l' hk
      induction hk with
      | nil =>
        intro w
        refine wpAny_handleBy_nil ?_
        obtain ⟨k1, k2, k3, oe, vs, T, oT, ts', he, hz, hd, h1, hr⟩ := id fl3
        unfold PySem.passOn
        refine wpAny_bind (wpAny_field he hd h1 ?_)
        rw [if_neg (show ¬ ((Value.ref T == Value.none) = true) from by simp)]
        have fin : wpAny (model X.prog X.w) X.A (setFlight (.ref a) X.env.frame) (fun _ s4 => wpAny (model X.prog X.w) X.A (throw (.ref a) : Sem Flow) (SP X pins D) X.xe s4) X.xe { s' with heap := h3 } := by
          rw [hf]
          refine HandSPX.setFlight_upZ fl3 fun h4 hh4 up4 => wpAny_throw (tk _ _ ?_)
          exact ⟨a, B, sI, pins, σ', H', cls, d, rfl, J, nb, (up.trans up3).trans up4, .inr (.inr (by rw [hs]; exact hh4)), na, os, ag, w⟩
        first
          | exact wpAny_bind (wpAny_pure (wpAny_bind fin))
          | exact wpAny_bind fin
      | @cons x c ts b₀ suite np pos' hds2 l2 hc hsu r ih =>
        intro w
        obtain ⟨b, hb1, hyes, hno⟩ := w
        refine wpAny_handleBy_cons (codeAny_handlers_test ?_) (by intro q; cases q)
        refine test hc ((PySem.W.exm_one (M := model X.prog X.w) (J3.kIn) LT hb1).here ?_)
        cases b with
        | true =>
          refine codeAny_handlers_suite ?_
          refine HandSPX.lands_againZ fl3 fun h4 fl4 up4 => ?_
          have J4 : Inv X pins σ' H' { s' with heap := h4 } := J.landed nb fl4.1 ((up.trans up3).trans up4) os ag
          obtain ⟨oe4, vs4, he4, hz4, hd4⟩ := fl4.there
          have S4 := J4.suite he4 hd4 na nL nF
          refine wpAny_mono ((hsu a oe4 cls d (X.pn ++ pins) hz4 ⟨_, hd4⟩).run [] _ _ H' _ S4 (hyes rfl a na)) (fun f s6 hsp => ?_) (fun _ _ z => False.elim z)
          cases f with
          | next =>
            obtain ⟨σ6, H6, S6, q6⟩ := hsp
            exact ⟨_, _, S6.unsuite ok, q6⟩
          | brk =>
            obtain ⟨σ6, H6, S6, q6⟩ := hsp
            exact ⟨_, _, S6.unsuite ok, q6⟩
          | cont =>
            obtain ⟨σ6, H6, S6, q6⟩ := hsp
            exact ⟨_, _, S6.unsuite ok, q6⟩
          | ret u =>
            obtain ⟨v6, σ6, H6, S6, r6, q6⟩ := hsp
            exact ⟨_, _, _, S6.unsuite ok, r6, q6⟩
        | false =>
          show wpAny _ X.A (handleBy (.ref a) X.env hds2) _ _ _
          exact ih (hno rfl)
      | @consAs x n i c ts b₀ suite np pos' hds2 l2 hi hln hc hsu r ih =>
        intro w
        obtain ⟨b, hb1, hyes, hno⟩ := w
        refine wpAny_handleBy_cons (codeAny_handlers_test ?_) (by intro q; cases q)
        refine test hc ((PySem.W.exm_one (M := model X.prog X.w) (J3.kIn) LT hb1).here ?_)
        cases b with
        | true =>
          refine codeAny_handlers_suite_as ?_
          refine HandSPX.lands_againZ fl3 fun h4 fl4 up4 => ?_
          have J4 : Inv X pins σ' H' { s' with heap := h4 } := J.landed nb fl4.1 ((up.trans up3).trans up4) os ag
          obtain ⟨oe4, vs4, he4, hz4, hd4⟩ := fl4.there
          have S4 := J4.suite he4 hd4 na nL nF
          refine store_ok (X := X.suite a ((a, oe4) :: (X.pn ++ pins))) (v := .ref a) S4 hN hi (.inl hln) rfl (fun s5 S5 => ?_) (.inr hln)
          refine wpAny_mono ((hsu a oe4 cls d (X.pn ++ pins) hz4 ⟨_, hd4⟩).run [] s5 _ H' _ S5 (hyes rfl a na)) (fun f s6 hsp => ?_) (fun _ _ z => False.elim z)
          have end_ : ∀ {σ6 : L2.St} {H6 : Hp} {Q : Shared → Prop}, Inv (X.suite a ((a, oe4) :: (X.pn ++ pins))) [] σ6 H6 s6 → (∀ s7, Inv X pins (σ6.set i none) H6 s7 → Q s7) →
              wpAny (model X.prog X.w) X.A (do bindName X.env n .none; unbindBehindTheSuite X.env n pos') (fun _ s7 => Q s7) X.xe s6 := fun {σ6 H6 Q} S6 hq => gone_ok (S6.unsuite ok) hN hi hln hq
          cases f with
          | next =>
            obtain ⟨σ6, H6, S6, q6⟩ := hsp
            exact end_ S6 fun s7 J7 => ⟨_, _, J7, q6⟩
          | brk =>
            obtain ⟨σ6, H6, S6, q6⟩ := hsp
            exact end_ S6 fun s7 J7 => ⟨_, _, J7, q6⟩
          | cont =>
            obtain ⟨σ6, H6, S6, q6⟩ := hsp
            exact end_ S6 fun s7 J7 => ⟨_, _, J7, q6⟩
          | ret u =>
            obtain ⟨v6, σ6, H6, S6, r6, q6⟩ := hsp
            exact end_ S6 fun s7 J7 => ⟨_, _, _, J7, r6, q6⟩
        | false =>
          show wpAny _ X.A (handleBy (.ref a) X.env hds2) _ _ _
          exact ih (hno rfl)
    exact go hh w
  · cases f with
    | next =>
      obtain ⟨σ', H', J', q⟩ := hsp
      exact wpAny_execs_nil ⟨σ', H', J'.ofTry ok, q⟩
    | brk =>
      obtain ⟨σ', H', J', q⟩ := hsp
      exact ⟨σ', H', J'.ofTry ok, q⟩
    | cont =>
      obtain ⟨σ', H', J', q⟩ := hsp
      exact ⟨σ', H', J'.ofTry ok, q⟩
    | ret u =>
      obtain ⟨v, σ', H', J', r, q⟩ := hsp
      exact ⟨v, σ', H', J'.ofTry ok, r, q⟩
end
end Mi
set_option Elab.async false
set_option linter.all false
set_option maxRecDepth 100000
/-! Mi, part 19: try. -/
namespace Mi
open PySem PySem.Spec L2
/-- with the exception at a, its dict at dd -/
def G.wx (g : G) (a dd : Addr) : G := { g with ex := some (a, dd) }
theorem Good.tr {X : Cx} {W W' : WX} {g : G} {q : Qc} (c : Good X W g q) {pn : List (Addr × Obj)} {xe : Value → Shared → Prop} (tk : Takes (X.tr pn xe) W') (ps : PassesOwn (model X.prog X.w) X.A X.env xe) : Good (X.tr pn xe) W' g q where
  K := c.K
  mg := c.mg
  tk := tk
  calm := c.calm
  N := c.N
  sc := c.sc
  fn := c.fn
  un := c.un
  gd := c.gd
  rm := c.rm
  lv2 := c.lv2
  lvd := c.lvd
  lw := c.lw
  rs := c.rs
  em := c.em
  cl := c.cl
  pass := ps
theorem Frm.tr {X : Cx} (c : Frm X) {pn : List (Addr × Obj)} {xe : Value → Shared → Prop} : Frm (X.tr pn xe) := ⟨c.stack, c.frame⟩
theorem pss_under {X : Cx} {st : List Stmt} {t : TS} {P : Prop} (h : P → PSs X st t) : PSs X st (fun D σ H => P ∧ t D σ H) := ⟨fun pins s σ H D I ⟨p, hw⟩ => (h p).run pins s σ H D I hw⟩
section
variable {X : Cx} {g : G} {W : WX} {q : Qc} {B : Bs} {F F' H H' : Hp} {r r' : List Addr} {σ : L2.St} {f : Fr} {S : Store} {E : Ends}
theorem noEx_at (h : noEx f = true) {k : Nat} {fs : List (Tx × D)} : f[k]? ≠ some (.ex fs) := fun e => by
  have := List.all_eq_true.mp h _ (List.mem_of_getElem? e)
  cases this
theorem E1.wx {a dd : Addr} (e : E1 g F r S H) : E1 (g.wx a dd) F r S H := ⟨e.hold, e.fro, e.len, e.sto, e.rnd, e.rF, e.tabs, e.tF, e.tr⟩
theorem E1.unwx {a dd : Addr} (e : E1 (g.wx a dd) F r S H) : E1 g F r S H := ⟨e.hold, e.fro, e.len, e.sto, e.rnd, e.rF, e.tabs, e.tF, e.tr⟩
theorem SlR.wx {a dd : Addr} {sl : Sl} {o : Option (Option V)} (h : SlR g F r H sl o) (n : ∀ fs, sl ≠ .ex fs) : SlR (g.wx a dd) F r H sl o := by
  cases sl with
  | un => trivial
  | val d => exact h
  | own d => exact h
  | ex fs => exact absurd rfl (n fs)
  | lam => exact h
theorem SlR.unwx {a dd : Addr} {sl : Sl} {o : Option (Option V)} (h : SlR (g.wx a dd) F r H sl o) (n : ∀ fs, sl ≠ .ex fs) : SlR g F r H sl o := by
  cases sl with
  | un => trivial
  | val d => exact h
  | own d => exact h
  | ex fs => exact absurd rfl (n fs)
  | lam => exact h
theorem SR.wx {a dd : Addr} (s : SR g B F r f S σ H) (n : noEx f = true) : SR (g.wx a dd) B F r f S σ H :=
  ⟨s.e1.wx, s.len, fun k sl h => (s.slot k sl h).wx fun fs z => noEx_at n (fs := fs) (h.trans (congrArg some z)), s.ow, s.od, s.bs, s.pin, s.lck⟩
theorem SR.unwx {a dd : Addr} (s : SR (g.wx a dd) B F r f S σ H) (n : noEx f = true) : SR g B F r f S σ H :=
  ⟨s.e1.unwx, s.len, fun k sl h => (s.slot k sl h).unwx fun fs z => noEx_at n (fs := fs) (h.trans (congrArg some z)), s.ow, s.od, s.bs, s.pin, s.lck⟩
theorem RX.nofr {d : D} {v : V} (h : RXc g B F r H d false v) : RepV g.K F r d v := by
  unfold RXc at h
  rw [if_neg (by decide)] at h
  exact h
/-- a clause's name takes the exception -/
theorem SR.as (s : SR g B F r f S σ H) (n : noEx f = true) {a dd : Addr} {vs : List (Str × V)} {fs : List (Tx × D)} (hd : H dd = some (.xd vs)) (hf : RepF g.K F r fs vs) (oi : Option Nat) : SR (g.wx a dd) B F r (asF f fs oi) S (slotAs σ a oi) H := by
  cases oi with
  | none => exact s.wx n
  | some i =>
    refine SR.reslot (s.wx (a := a) (dd := dd) n) (by show (f.set i _).length = (σ.set i _).length; rw [List.length_set, List.length_set]; exact s.len) (fun k d h => ?_) fun k sl h => ?_
    · have h : (f.set i (.ex fs))[k]? = some (.own d) := h
      show f[k]? = some (.own d) ∧ (σ.set i (some (.ref a)))[k]? = σ[k]?
      by_cases e : i = k
      · subst e
        rw [List.getElem?_set_self'] at h
        cases z : f[i]? with
        | none => rw [z] at h; cases h
        | some w => rw [z] at h; cases h
      · rw [List.getElem?_set_ne e] at h
        exact ⟨h, List.getElem?_set_ne e⟩
    · have h : (f.set i (.ex fs))[k]? = some sl := h
      show SlR (g.wx a dd) F r H sl ((σ.set i (some (.ref a)))[k]?)
      by_cases e : i = k
      · subst e
        rw [List.getElem?_set_self'] at h ⊢
        cases z : f[i]? with
        | none => rw [z] at h; cases h
        | some w =>
          rw [z] at h
          cases h
          have hi : i < f.length := (List.getElem?_eq_some_iff.mp z).1
          rw [List.getElem?_eq_getElem (l := σ) (by rw [← s.len]; exact hi)]
          exact ⟨a, dd, vs, rfl, rfl, hd, hf⟩
      · rw [List.getElem?_set_ne e] at h
        rw [List.getElem?_set_ne e]
        exact (s.slot k sl h).wx fun fs z => noEx_at n (fs := fs) (h.trans (congrArg some z))
def unSlot (σ : L2.St) : Option Nat → L2.St
  | none => σ
  | some i => σ.set i none
/-- its name is gone -/
theorem SR.gone {a dd : Addr} {oi : Option Nat} (s : SR (g.wx a dd) B F r f S σ H) (n : noEx (unF f oi) = true) : SR g B F r (unF f oi) S (unSlot σ oi) H := by
  refine SR.unwx (a := a) (dd := dd) ?_ n
  cases oi with
  | none => exact s
  | some i =>
    refine s.reslot (by show (f.set i _).length = (σ.set i _).length; rw [List.length_set, List.length_set]; exact s.len) (fun k d h => ?_) fun k sl h => ?_
    · have h : (f.set i .un)[k]? = some (.own d) := h
      show f[k]? = some (.own d) ∧ (σ.set i none)[k]? = σ[k]?
      by_cases e : i = k
      · subst e
        rw [List.getElem?_set_self'] at h
        cases z : f[i]? with
        | none => rw [z] at h; cases h
        | some w => rw [z] at h; cases h
      · rw [List.getElem?_set_ne e] at h
        exact ⟨h, List.getElem?_set_ne e⟩
    · have h : (f.set i .un)[k]? = some sl := h
      show SlR (g.wx a dd) F r H sl ((σ.set i none)[k]?)
      by_cases e : i = k
      · subst e
        rw [List.getElem?_set_self'] at h
        cases z : f[i]? with
        | none => rw [z] at h; cases h
        | some w => rw [z] at h; cases h; trivial
      · rw [List.getElem?_set_ne e] at h
        rw [List.getElem?_set_ne e]
        exact s.slot k sl h
theorem post_run {a dd : Addr} {oi : Option Nat} {res : RS} {W' : WX} (h : RunS g W B F r (res.post oi) E) : RunS (g.wx a dd) W' B F r res (endsAs E oi) := by
  cases res with
  | nx f S =>
    replace h : RunS g W B F r (if noEx (unF f oi) = true then .nx (unF f oi) S else .bad) E := h
    split at h
    · rename_i n
      intro F' r' σ H' l s
      have z := h F' r' _ H' l (s.gone n)
      cases oi <;> exact z
    · exact h.elim
  | bk f S =>
    replace h : RunS g W B F r (if noEx (unF f oi) = true then .bk (unF f oi) S else .bad) E := h
    split at h
    · rename_i n
      intro F' r' σ H' l s
      have z := h F' r' _ H' l (s.gone n)
      cases oi <;> exact z
    · exact h.elim
  | ct f S =>
    replace h : RunS g W B F r (if noEx (unF f oi) = true then .ct (unF f oi) S else .bad) E := h
    split at h
    · rename_i n
      intro F' r' σ H' l s
      have z := h F' r' _ H' l (s.gone n)
      cases oi <;> exact z
    · exact h.elim
  | rt d fr f S =>
    replace h : RunS g W B F r (if noEx (unF f oi) = true then .rt d fr (unF f oi) S else .bad) E := h
    split at h
    · rename_i n
      intro F' r' σ H' v l s p
      have z := h F' r' _ H' v l (s.gone n) p
      cases oi <;> exact z
    · exact h.elim
  | exc c fs f S => exact (show False from h).elim
  | bad => exact h
/-- the reading of a clause's suite -/
def tHd (g : G) (h : Nat) (m : MS) : Addr → Value → Option Addr → TS := fun a cls d D σ H => ∃ dd, (cls = .ref (g.cls h) ∧ d = some dd) ∧ tS (g.wx a dd) WF m D σ H
def hdL (g : G) : List (Nat × Option Nat × MS) → List Hd
  | [] => []
  | (h, oi, m) :: r => (.ref (g.cls h), oi, tHd g h m) :: hdL g r
theorem tryHs_run {K : PySem.W.Frag} {c : Nat} {fs : List (Tx × D)} {ac : Str × List Tx} (hc : g.exc c = some ac) (em : ∀ c h a b, g.exc c = some a → g.exc h = some b → PySem.W.exmOne K (.ref (g.cls c)) (.ref (g.cls h)) = some (decide (c = h))) :
    ∀ {hs : List (Nat × Option Nat × MS)}, (∀ p ∈ hs, ∃ b, g.exc p.1 = some b) → RunS g W B F r (tryHs g.cx c fs f S hs) E → ∀ F' r' σ H' dd vs, Le F r F' r' → SR g B F' r' f S σ H' → H' dd = some (.xd vs) → RepF g.K F' r' fs vs → wAny K W E (hdL g hs) (.ref (g.cls c)) (some dd) σ H'
  | [], _, h => fun F' r' σ H' dd vs l s h1 h2 => h F' r' σ H' dd vs l s h1 h2
  | (k, oi, m) :: hs, hk, h => fun F' r' σ H' dd vs l s h1 h2 => by
    obtain ⟨b, hb⟩ := hk (k, oi, m) List.mem_cons_self
    refine ⟨decide (c = k), em c k _ _ hc hb, fun e a ha => ?_, fun e => ?_⟩
    · have e' : c = k := of_decide_eq_true e
      unfold tryHs at h
      rw [if_pos e'] at h
      split at h
      · rename_i n
        exact ⟨dd, ⟨by rw [e'], rfl⟩, ⟨B, F', r', asF f fs oi, S, s.as n h1 h2 oi, (post_run h).le l⟩⟩
      · exact h.elim
    · have e' : ¬ c = k := of_decide_eq_false e
      unfold tryHs at h
      rw [if_neg e'] at h
      exact tryHs_run hc em (fun p hp => hk p (List.mem_cons_of_mem _ hp)) h F' r' σ H' dd vs l s h1 h2
/-- the clauses of a try -/
inductive HdsM (X : Cx) (g : G) (q : Qc) : List ExceptHandler → List (Nat × Option Nat × MS) → Prop
  | nil : HdsM X g q [] []
  | cons {k : Nat} {nm : Str} {fs : List Tx} {m : MS} {b₀ : Stmt} {suite : List Stmt} {np pos' : Pos} {hds : List ExceptHandler} {l : List (Nat × Option Nat × MS)} (hx : g.exc k = some (nm, fs)) (hg : GlQ q nm) (hd : (nm == ("__debug__" : Str)) = false)
      (hsu : ∀ a oe dd pn, Zc (.ref (g.cls k)) (some dd) oe → (∃ vs, oe.data = .fields vs) → PSs (X.suite a ((a, oe) :: pn)) (b₀ :: suite) (tS (g.wx a dd) WF m)) (r : HdsM X g q hds l) :
      HdsM X g q (.ExceptHandler (some (.Name nm np)) none (b₀ :: suite) pos' :: hds) ((k, none, m) :: l)
  | consAs {k i : Nat} {nm n : Str} {fs : List Tx} {m : MS} {b₀ : Stmt} {suite : List Stmt} {np pos' : Pos} {hds : List ExceptHandler} {l : List (Nat × Option Nat × MS)} (hx : g.exc k = some (nm, fs)) (hg : GlQ q nm) (hd : (nm == ("__debug__" : Str)) = false) (hi : q.N[i]? = some n) (hln : q.sc.names.lookup n = some .local)
      (hsu : ∀ a oe dd pn, Zc (.ref (g.cls k)) (some dd) oe → (∃ vs, oe.data = .fields vs) → PSs (X.suite a ((a, oe) :: pn)) (b₀ :: suite) (tS (g.wx a dd) WF m)) (r : HdsM X g q hds l) :
      HdsM X g q (.ExceptHandler (some (.Name nm np)) (some n) (b₀ :: suite) pos' :: hds) ((k, some i, m) :: l)
theorem HdsM.known {hds : List ExceptHandler} {l : List (Nat × Option Nat × MS)} (h : HdsM X g q hds l) : ∀ p ∈ l, ∃ b, g.exc p.1 = some b := by
  induction h with
  | nil => intro p hp; cases hp
  | cons hx hg hd hsu r ih =>
    intro p hp
    rcases List.mem_cons.mp hp with e | e
    · subst e; exact ⟨_, hx⟩
    · exact ih p e
  | consAs hx hg hd hi hln hsu r ih =>
    intro p hp
    rcases List.mem_cons.mp hp with e | e
    · subst e; exact ⟨_, hx⟩
    · exact ih p e
theorem tHd_ps {k : Nat} {m : MS} {st : List Stmt} (hsu : ∀ a oe dd pn, Zc (.ref (g.cls k)) (some dd) oe → (∃ vs, oe.data = .fields vs) → PSs (X.suite a ((a, oe) :: pn)) st (tS (g.wx a dd) WF m)) (a : Addr) (oe : Obj) (cls : Value) (d : Option Addr) (pn : List (Addr × Obj)) (hz : Zc cls d oe) (hf : ∃ vs, oe.data = .fields vs) :
    PSs (X.suite a ((a, oe) :: pn)) st (tHd g k m a cls d) := ⟨fun pins s σ H D I ⟨dd, ⟨e1, e2⟩, hw⟩ => by
  subst e1
  subst e2
  exact (hsu a oe dd pn hz hf).run pins s σ H D I hw⟩
theorem HdsM.hds (c : Good X W g q) {hds : List ExceptHandler} {l : List (Nat × Option Nat × MS)} (h : HdsM X g q hds l) : HdsA X hds (hdL g l) := by
  have nm : ∀ {k : Nat} {nm : Str} {fs : List Tx}, g.exc k = some (nm, fs) → GlQ q nm → (nm == ("__debug__" : Str)) = false → Names X nm (.ref (g.cls k)) := fun {k nm fs} hx hg hd => by
    obtain ⟨fI, fd, R⟩ := c.rs k nm fs hx
    exact ⟨by unfold Gl Env.kindOf; rw [c.sc]; exact hg, hd, .inl R.mg⟩
  induction h with
  | nil => exact .nil
  | cons hx hg hd hsu r ih => exact .cons (nm hx hg hd) (tHd_ps hsu) ih
  | consAs hx hg hd hi hln hsu r ih => exact .consAs (by rw [c.N]; exact hi) (by unfold Env.kindOf; rw [c.sc]; exact hln) (nm hx hg hd) (tHd_ps hsu) ih
theorem snd_try (c : Good X W g q) (cf : Frm X) (hN : q.N.Nodup) {body : List Stmt} {h₀ : ExceptHandler} {hds : List ExceptHandler} {mb : MS} {hs : List (Nat × Option Nat × MS)} {pos : Pos} (hb : ∀ pn xe W', Good (X.tr pn xe) W' g q → Frm (X.tr pn xe) → PSs (X.tr pn xe) body (tS g W' mb)) (hh : HdsM X g q (h₀ :: hds) hs)
    {nx : Nat} (hkn : ∀ k, k < nx → ∃ a, g.exc k = some a) : PS X (.Try body (h₀ :: hds) [] [] pos) (tS g W (sTry nx mb hs)) :=
  PS.imp (ps_try_any cf.stack cf.frame (by rw [c.N]; exact hN) c.tk (tb := fun W' => tS g W' mb) (fun W' pn xe tk ps => hb pn xe W' (c.tr tk ps) cf.tr) (hh.hds c)) fun D σ H ⟨B, F, r, f, S, s, h⟩ => by
    refine ⟨B, F, r, f, S, s, ?_⟩
    replace h : RunS g W B F r (match mb g.cx f S with
      | .exc c fs f S => if c < nx then tryHs g.cx c fs f S hs else .bad
      | .nx f S => .nx f S
      | .rt d fr f S => .rt d fr f S
      | .bk f S => .bk f S
      | .ct f S => .ct f S
      | .bad => .bad) D := h
    revert h
    cases mb g.cx f S with
    | nx f S => exact fun h => h
    | bk f S => exact fun h => h
    | ct f S => exact fun h => h
    | rt d fr f S => exact fun h => h
    | bad => exact fun h => h
    | exc k fs f S =>
      intro h
      dsimp only at h
      split at h
      · rename_i hk
        obtain ⟨ac, hac⟩ := hkn k hk
        exact tryHs_run hac c.em hh.known h
      · exact h.elim
/-- e.n in a clause's suite -/
theorem snd_exf (c : Good X W g q) {a : Addr} {oe : Obj} {dd : Addr} {pn : List (Addr × Obj)} {k i : Nat} {nm e : Str} {fs : List Tx} {n : Tx} {n' : Str} {p pos : Pos} (hx : g.exc k = some (nm, fs)) (hz : Zc (.ref (g.cls k)) (some dd) oe) (hf : ∃ vs, oe.data = .fields vs) (hn : n ∈ fs) (en : n' = toStr n) (hN : q.N[i]? = some e) (hv : Vis q.sc e)
    (hdb : (e == ("__debug__" : Str)) = false := by decide) (hcd : (e == ("__classdict__" : Str)) = false := by decide) : PE (X.suite a ((a, oe) :: pn)) (.Attribute (.Name e p) n' pos) (tE (g.wx a dd) WF (mEx i n)) := by
  subst en
  obtain ⟨fI, fd, R⟩ := c.rs k nm fs hx
  refine PE.imp (pe_xf R.xf (R.nof _ (List.mem_map.mpr ⟨n, hn, rfl⟩)) hz hf (pe_var (X := X.suite a ((a, oe) :: pn)) (i := i) (by show X.N[i]? = _; rw [c.N]; exact hN) (by show Vis X.env.scope e; rw [c.sc]; exact hv) hdb hcd) rfl) fun σ H Q ⟨B, F, r, f, S, s, h⟩ => ?_
  unfold mEx at h
  cases ef : f[i]? with
  | none => rw [ef] at h; exact h.elim
  | some sl =>
    rw [ef] at h
    cases sl with
    | ex xs =>
      dsimp only at h
      cases el : xs.lookup n with
      | none => rw [el] at h; exact h.elim
      | some d =>
        rw [el] at h
        obtain ⟨a', dd', vs, e1, e2, e3, e4⟩ := s.slot i _ ef
        cases (show some (a, dd) = some (a', dd') from e1)
        have look : ∀ {xs : List (Tx × D)} {vs : List (Str × V)}, RepF g.K F r xs vs → xs.lookup n = some d → ∃ v, vs.lookup (toStr n) = some v ∧ RepV g.K F r d v := by
          intro xs vs rf
          induction rf with
          | nil => intro z; cases z
          | @cons k d' v ds vs h1 h2 ih =>
            intro z
            rw [List.lookup_cons] at z ⊢
            by_cases ek : n = k
            · subst ek
              simp at z
              subst z
              exact ⟨v, by simp, h1⟩
            · have e5 : (n == k) = false := by simpa using ek
              have e6 : (toStr n == toStr k) = false := by
                rw [beq_eq_false_iff_ne]
                exact fun z => ek (toStr_inj z)
              rw [e5] at z
              rw [e6]
              exact ih z
        obtain ⟨v, z1, z2⟩ := look e4 el
        exact ⟨_, e2, rfl, rfl, dd, vs, v, rfl, e3, z1, Run.ok (P := PD (g.wx a dd)) (a := d) h s z2⟩
    | un => exact h.elim
    | val d => exact h.elim
    | own d => exact h.elim
    | lam => exact h.elim
end
end Mi
set_option Elab.async false
set_option linter.all false
set_option maxRecDepth 100000
/-! Mi, part 20: more statements and displays. -/
namespace Mi
open PySem PySem.Spec L2
section
variable {X : Cx} {g : G} {W : WX} {q : Qc} {B : Bs} {F F' H H' : Hp} {r r' : List Addr} {σ : L2.St} {f : Fr} {S : Store} {E : Ends}
/-- y = [elt for tg in iter if ..]: the name on the same line -/
theorem snd_setComp (c : Good X W g q) (hN : q.N.Nodup) {i : Nat} {y : Str} {py : Pos} {elt tg iter : Expr} {ifs : List Expr} {scope : Scope} {own : List (Str × Nat)} {pos spos : Pos} {t : Tg} {mi : M (List D)} {tst : M Bool} {me : M D} (hy : q.N[i]? = some y) (hyl : q.sc.names.lookup y = some .local) (hk : q.sc.kind = .function) (hl : (py.line == pos.line) = true) (hna : (scope.names.any fun (n, k) => n == y && (k == .local || k == .cell)) = false)
    (hi : PI X tg iter (tI g W mi)) (ok : blkC q.N q.sc scope own = true)
    (hg : ∀ X', Good X' WF g (q.blk scope) → PG X' tg (gT g.K t)) (ht : ∀ X', Good X' WF g (q.blk scope) → PTs X' ifs (tB g WF tst)) (he : ∀ X', Good X' WF g (q.blk scope) → PE X' elt (tE g WF me))
    (hs : ∀ x, foldedSetIterable iter X.env x = pure x := by intro _; rfl) : PS X (.Assign [.Name y py] (.ListComp elt [⟨tg, iter, ifs, 0⟩] scope pos) spos) (tS g W (sSet i (mComp (own.map (·.2)) t mi tst me))) :=
  PS.imp (ps_setLc c.calm (by rw [c.N]; exact hN) (by rw [c.N]; exact hy) (by rw [c.sc]; exact hyl) (sw_true (by rw [c.sc]; exact hk) (by rw [c.sc]; exact hyl) hl hna) hi (blkOk_by (by rw [c.N, c.sc]; exact ok)) (fun s H C cl fp => hg _ (c.blk s H scope cl C fp)) (fun s H C cl fp => ht _ (c.blk s H scope cl C fp)) (fun s H C cl fp => he _ (c.blk s H scope cl C fp)) hs) fun D σ H ⟨B, F, r, f, S, s, h⟩ => by
    have h1 : tX g W (mComp (own.map (·.2)) t mi tst me) σ H fun v H1 => D.nx (σ.set i (some v)) H1 := tM.mono (tS_then (P := PX g) s h) fun v H1 ⟨d, F', r', f, S, l, s', p, z⟩ => RunS.nx z (s'.assign p)
    exact mComp_run h1
/-- .. a name that is captured by a lambda -/
theorem sw_cell {y : Str} {py : Pos} {elt : Expr} {gs : List Comprehension} {scope : Scope} {pos : Pos} {l : Nat} {env : Env} (h : env.kindOf y = some .cell) : swapsWith (.ListComp elt gs scope pos) (some (.Name y py)) l env = pure false := by
  show (do return env.blockKind == .function && env.kindOf y == some .local && py.line == pos.line && !(scope.names.any fun (n, k) => n == y && (k == .local || k == .cell)) : Sem Bool) = pure false
  rw [h, show (some NameKind.cell == some NameKind.local) = false from rfl, Bool.and_false, Bool.false_and, Bool.false_and]
theorem snd_setCompC (c : Good X W g q) (hN : q.N.Nodup) {i : Nat} {y : Str} {py : Pos} {elt : Expr} {gs : List Comprehension} {scope : Scope} {pos spos : Pos} {m : M DX} (hx : LocQ q i y) (hyl : q.sc.names.lookup y = some .cell) (he : PE X (.ListComp elt gs scope pos) (tX g W m)) : PS X (.Assign [.Name y py] (.ListComp elt gs scope pos) spos) (tS g W (sSet i m)) :=
  snd_set c hN hx he (sw_cell (by unfold Env.kindOf; rw [c.sc]; exact hyl))
/-- a, b = e -/
theorem snd_tupA (c : Good X W g q) {t : Tg} {tg e : Expr} {m : M D} {pos : Pos} (he : PE X e (tE g W m)) (hg : PG X tg (gT g.K t)) (hs : swapsWithSole [tg] e pos.line X.env = pure false := by rfl) (hw : swappedStores [tg] e X.env = pure none := by rfl) (h1 : (assignEach [tg] X.env).map (·.2) = [assign tg X.env] := by rfl) : PS X (.Assign [tg] e pos) (tS g W (sTup t m)) :=
  PS.imp (ps_asg he hg hs hw h1) fun D σ H ⟨B, F, r, f, S, s, h⟩ => tM.mono (tS_then (P := PD g) s h) fun v H1 ⟨d, F', r', f, S, l, s', p, z⟩ => by
    cases hp : t.put d f with
    | none => rw [hp] at z; exact z.elim
    | some f' =>
      rw [hp] at z
      exact gT_run s' p hp fun σ' s'' _ => RunS.nx z s''
/-! ### a, b = (x, y) -/
theorem parK_run {i j : Nat} {n : M DX} {d : DX} {v : V} (s : SR g B F r f S σ H) (rx : RX g B F r f σ H d.1 d.2 v) (hij : i ≠ j) (h : RunS g W B F r (parK i j n d g.cx f S) E) : tX g W n σ H fun w H1 => E.nx ((σ.set i (some v)).set j (some w)) H1 := by
  by_cases hfr : d.2 = true
  · have rx' := rx
    unfold RX at rx'
    rw [if_pos hfr] at rx'
    obtain ⟨a, rfl, nw⟩ := rx'
    have go : ∀ {o : HO}, H a = some o → isTbl o = false → (∀ F' r' H', Le F r F' r' → H' a = some o → CoR g.K F' r' H' d.1 a) → tX g W n σ H fun w H1 => E.nx ((σ.set i (some (.ref a))).set j (some w)) H1 := fun {o} ho ht hco => by
      have s2 := s.pinL ho ht nw.nF nw.nr nw.no
      refine ⟨B.pinned a o, F, r, f, S, s2, ?_⟩
      replace h : RunS g W B F r ((n g.cx f S).thenS fun e f S => .nx ((f.set i (slOf d)).set j (slOf e)) S) E := h
      revert h
      cases n g.cx f S with
      | ok e f2 S2 =>
        intro h F2 r2 H2 w l2 s3 rw'
        obtain ⟨s4, k1, k2, k3, k4⟩ := s3.unpin nw.np
        have nw2 : New g B F2 r2 f2 σ H2 d.1 a := ⟨hco F2 r2 H2 l2 k1, k2, k3, nw.nB, k4, nw.np⟩
        have rw2 : RX g B F2 r2 f2 σ H2 e.1 e.2 w := by
          have rw3 : RX g (B.pinned a o) F2 r2 f2 σ H2 e.1 e.2 w := rw'
          unfold RX at rw3 ⊢
          split
          · rename_i he
            rw [if_pos he] at rw3
            obtain ⟨b, e1, n1⟩ := rw3
            refine ⟨b, e1, ⟨n1.co, n1.nF, n1.nr, n1.nB, n1.no, ?_⟩⟩
            have hb : b ≠ a := fun z => by
              have := n1.np
              rw [z] at this
              rw [show (B.pinned a o).P a = some o from upd_same] at this
              cases this
            have := n1.np
            rw [show (B.pinned a o).P b = upd B.P a o b from rfl, upd_ne hb] at this
            exact this
          · rename_i he
            rw [if_neg he] at rw3
            exact rw3
        have s5 := s4.assign (i := i) (d := d) (v := .ref a) (by unfold RX; rw [if_pos hfr]; exact ⟨a, rfl, nw2⟩)
        have s6 := s5.assign (i := j) (d := e) (v := w) (by
          unfold RX at rw2 ⊢
          split
          · rename_i he
            rw [if_pos he] at rw2
            obtain ⟨b, e1, n1⟩ := rw2
            refine ⟨b, e1, ⟨n1.co, n1.nF, n1.nr, n1.nB, fun k hk => ?_, n1.np⟩⟩
            have hb : b ≠ a := fun z => by
              have rw3 : RX g (B.pinned a o) F2 r2 f2 σ H2 e.1 e.2 w := rw'
              unfold RX at rw3
              rw [if_pos he] at rw3
              obtain ⟨b', e1', n1'⟩ := rw3
              rw [e1] at e1'
              cases e1'
              have := n1'.np
              rw [z, show (B.pinned a o).P a = some o from upd_same] at this
              cases this
            obtain ⟨⟨dd, h1⟩, h2⟩ := hk
            by_cases ek : i = k
            · subst ek
              rw [List.getElem?_set_self'] at h2
              cases z : σ[i]? with
              | none => rw [z] at h2; cases h2
              | some u => rw [z] at h2; cases h2; exact hb rfl
            · rw [List.getElem?_set_ne ek] at h1 h2
              exact n1.no k ⟨⟨dd, h1⟩, h2⟩
          · rename_i he
            rw [if_neg he] at rw2
            exact rw2)
        exact h F2 r2 _ H2 l2 s6
      | exc cc fs f2 S2 => exact fun h F2 r2 H2 dd vs l2 s3 h1 h2 => h F2 r2 σ H2 dd vs l2 (s3.unpin nw.np).1 h1 h2
      | bad => exact fun h => h
    have co := nw.co
    cases ed : d.1 with
    | lst ds =>
      rw [ed] at co
      obtain ⟨vs, z1, z2⟩ := co
      exact go z1 rfl fun F' r' H' l e => by rw [ed]; exact ⟨vs, e, z2.le l⟩
    | dct ds =>
      rw [ed] at co
      obtain ⟨vs, z1, z2⟩ := co
      exact go z1 rfl fun F' r' H' l e => by rw [ed]; exact ⟨vs, e, z2.le l⟩
    | _ => rw [ed] at co; exact co.elim
  · have rx' := rx
    unfold RX at rx'
    rw [if_neg hfr] at rx'
    refine tM.mono (tS_then (P := PX g) s h) fun w H1 ⟨e, F', r', f, S, l, s', p, z⟩ => ?_
    have s5 := s'.assign (i := i) (d := d) (v := v) (by unfold RX; rw [if_neg hfr]; exact rx'.le l)
    refine RunS.nx z (s5.assign (i := j) (d := e) (v := w) ?_)
    have p' : RX g B F' r' f σ H1 e.1 e.2 w := p
    unfold RX at p' ⊢
    split
    · rename_i he
      rw [if_pos he] at p'
      obtain ⟨b, e1, n1⟩ := p'
      refine ⟨b, e1, ⟨n1.co, n1.nF, n1.nr, n1.nB, fun k hk => ?_, n1.np⟩⟩
      obtain ⟨⟨dd, h1⟩, h2⟩ := hk
      by_cases ek : i = k
      · subst ek
        rw [List.getElem?_set_self'] at h1
        cases zf : f[i]? with
        | none => rw [zf] at h1; cases h1
        | some u =>
          rw [zf] at h1
          simp [slOf, hfr] at h1
      · rw [List.getElem?_set_ne ek] at h1 h2
        exact n1.no k ⟨⟨dd, h1⟩, h2⟩
    · rename_i he
      rw [if_neg he] at p'
      exact p'
def isStar : Expr → Bool
  | .Starred .. => true
  | _ => false
theorem swap2 {env : Env} {x y : Str} {a b : Expr} {px py pt : Pos} {kt k2 pt2} (hk : env.scope.kind = .function) (hx : env.kindOf x = some .local) (hy : env.kindOf y = some .local) (hl : (py.line == px.line) = true) (hxy : (y == x) = false) (hsa : isStar a = false) (hsb : isStar b = false)
    (hf : (foldedForSure 8 a && foldedForSure 8 b) = false) (hc : (constantsAlone 8 a && constantsAlone 8 b) = false) : swappedStores [.Tuple [.Name x px, .Name y py] kt pt] (.Tuple [a, b] k2 pt2) env = pure (some [x, y]) := by
  have e1 : ([a, b].any fun e => match e with | .Starred .. => true | _ => false) = false := by
    rw [List.any_cons, List.any_cons, List.any_nil, Bool.or_false]
    show (isStar a || isStar b) = false
    rw [hsa, hsb]; rfl
  have e2 : [a, b].all (foldedForSure 8) = false := by rw [List.all_cons, List.all_cons, List.all_nil, Bool.and_true]; exact hf
  have e3 : [a, b].all (constantsAlone 8) = false := by rw [List.all_cons, List.all_cons, List.all_nil, Bool.and_true]; exact hc
  have hb : env.blockKind = .function := by unfold Env.blockKind; rw [hk]; rfl
  unfold swappedStores
  simp only [pure_bind, List.length_cons, List.length_nil, e1, e2, e3, hb]
  have e4 : (x == y) = false := by
    rw [beq_eq_false_iff_ne] at hxy ⊢
    exact fun z => hxy z.symm
  simp [List.filterMap, hx, hy, hl, Expr.pos, List.eraseDups_cons, hxy, e4, bne]
  intro h
  exfalso
  rcases h with h | h
  · cases a <;> first | exact Bool.noConfusion h | exact Bool.noConfusion hsa
  · cases b <;> first | exact Bool.noConfusion h | exact Bool.noConfusion hsb
theorem snd_par (c : Good X W g q) (hN : q.N.Nodup) {i j : Nat} {x y : Str} {a b : Expr} {m n : M DX} {px py pt pos : Pos} {kt k2 pt2} (hi : q.N[i]? = some x) (hj : q.N[j]? = some y) (hij : i ≠ j) (hx : q.sc.names.lookup x = some .local) (hy : q.sc.names.lookup y = some .local) (hk : q.sc.kind = .function)
    (ha : PE X a (tX g W m)) (hb : PE X b (tX g W n)) (hl : (py.line == px.line) = true) (hxy : (y == x) = false) (hsa : isStar a = false) (hsb : isStar b = false) (hf : (foldedForSure 8 a && foldedForSure 8 b) = false) (hc : (constantsAlone 8 a && constantsAlone 8 b) = false)
    (hs1 : starEach [a, b] X.env = (false, eval a X.env) :: starEach [b] X.env := by rfl) (hs2 : starEach [b] X.env = [(false, eval b X.env)] := by rfl) : PS X (.Assign [.Tuple [.Name x px, .Name y py] kt pt] (.Tuple [a, b] k2 pt2) pos) (tS g W (sPar i j m n)) :=
  PS.imp (ps_par c.calm (by rw [c.N]; exact hN) (by rw [c.N]; exact hi) (by rw [c.N]; exact hj) hij (by rw [c.sc]; exact hx) (by rw [c.sc]; exact hy) (pa_cons ha (pa_cons hb pa_nil hs2) hs1) (swap2 (by rw [c.sc]; exact hk) (by unfold Env.kindOf; rw [c.sc]; exact hx) (by unfold Env.kindOf; rw [c.sc]; exact hy) hl hxy hsa hsb hf hc) rfl) fun D σ H ⟨B, F, r, f, S, s, h⟩ => by
    refine tM.mono (tS_then (P := PX g) s h) fun v H1 ⟨d, F', r', f, S, l, s', p, z⟩ => ?_
    exact tM.mono (parK_run s' p hij z) fun w H2 hw => ⟨v, w, rfl, hw⟩
/-! ### a list laid into the store -/
theorem SR.newS (s : SR g B F r f S σ H) {p : Addr} (hp : H p = none) {ds : List D} {vs : List V} (q : RepL g.K F r ds vs) : Le F r F (r ++ [p]) ∧ SR g B F (r ++ [p]) f (S ++ [.lst ds]) σ (upd H p (.lst vs)) := by
  obtain ⟨n1, n2, n3, n4, n5, n6⟩ := s.free hp
  have le : Le F r F (r ++ [p]) := ⟨fun _ _ h => h, List.prefix_append _ _⟩
  have s1 := s.alloc hp (.lst vs)
  have there : ∀ {a : Addr} {o : HO}, H a = some o → a ≠ p := fun e z => by rw [z, hp] at e; cases e
  have ni : ∀ {a : Addr}, a ∉ r → a ≠ p → a ∉ r ++ [p] := fun h1 h2 hm => by
    rcases List.mem_append.mp hm with z | z
    · exact h1 z
    · rw [List.mem_singleton] at z; exact h2 z
  have own : ∀ {k a}, ownAt f σ k a → a ≠ p := fun {k a} ho z => n4 k (by rw [← z]; exact ho)
  refine ⟨le, ⟨⟨s1.e1.hold, s.e1.fro, by rw [List.length_append, List.length_append, s.e1.len]; rfl, fun i o a h1 h2 => ?_, ?_, fun a ha => ?_, s1.e1.tabs, s.e1.tF, fun t ht hm => ?_⟩, s.len, fun k sl e => (s1.slot k sl e).le le, fun k a ha => ?_, s.od,
    ⟨s.bs.le.trans le, s1.bs.there, s1.bs.keep, s.bs.nF, fun a ha => ?_⟩, fun a o h => ?_, fun a o h => ?_⟩⟩
  · by_cases hi : i < S.length
    · rw [List.getElem?_append_left hi] at h1
      rw [List.getElem?_append_left (by rw [s.e1.len]; exact hi)] at h2
      exact (s1.e1.sto i o a h1 h2).le le
    · rw [List.getElem?_append_right (by omega)] at h1
      rw [List.getElem?_append_right (by rw [s.e1.len]; omega)] at h2
      have e0 : i - S.length = 0 := by
        cases z : i - S.length with
        | zero => rfl
        | succ n => rw [z] at h1; cases h1
      rw [e0] at h1
      rw [s.e1.len, e0] at h2
      cases h1
      cases h2
      exact ⟨vs, upd_same, q.le le⟩
  · rw [List.nodup_append]
    refine ⟨s.e1.rnd, by simp, fun a ha b hb => ?_⟩
    rw [List.mem_singleton] at hb
    subst hb
    exact fun z => n2 (by rw [← z]; exact ha)
  · rcases List.mem_append.mp ha with z | z
    · exact s.e1.rF a z
    · rw [List.mem_singleton] at z; rw [z]; exact n1
  · rcases List.mem_append.mp hm with z | z
    · exact s.e1.tr t ht z
    · rw [List.mem_singleton] at z; exact n5 t ht z
  · obtain ⟨h1, h2, h3⟩ := s.ow k a ha
    exact ⟨h1, ni h2 (own ha), h3⟩
  · rcases List.mem_append.mp ha with z | z
    · exact s.bs.nr a z
    · rw [List.mem_singleton] at z; right; rw [z]; exact n3
  · obtain ⟨h1, h2, h3, h4, h5⟩ := s1.pin a o h
    exact ⟨h1, h2, h3, ni h4 (there (s.pin a o h).1), h5⟩
  · obtain ⟨h1, h2, h3, h4⟩ := s1.lck a o h
    exact ⟨h1, h2, h3, ni h4 (there (s.lck a o h).1)⟩
theorem snd_lstS {es : List Expr} {ms : List (M D)} {pos : Pos} (h : PA X es (tAlls g W ms)) : PE X (.List es pos) (tX g W (mLstS ms)) :=
  PE.imp (pe_lst h) fun σ H Q h => tAlls_mono (mAll_then h) fun vs H1 ⟨B, ds, F, r, f, S, s, p, h⟩ => by
    have h' : Run g W (PX g) B F r σ (if ds.length ≤ LIM then .ok (.ref S.length, false) f (S ++ [.lst ds]) else .bad) Q := h
    split at h'
    · rename_i hl
      refine ⟨by rw [← p.length, lim_eq]; exact hl, fun a ha => ?_⟩
      obtain ⟨le, s'⟩ := s.newS ha p
      refine h' F (r ++ [a]) _ _ le s' (px_val (.ref ?_))
      rw [← s.e1.len, List.getElem?_append_right (Nat.le_refl _), Nat.sub_self]
      rfl
    · exact h'.elim
end
end Mi
set_option Elab.async false
set_option linter.all false
set_option maxRecDepth 100000
/-! Mi, part 21: walks of dicts. -/
namespace Mi
open PySem PySem.Spec L2
def Bs.locked (B : Bs) (a : Addr) (o : HO) : Bs := { B with L := a :: B.L, Lk := upd B.Lk a o }
section
variable {X : Cx} {g : G} {W : WX} {q : Qc} {B : Bs} {F F' H H' : Hp} {r r' : List Addr} {σ : L2.St} {f : Fr} {S : Store} {E : Ends}
/-- a frozen dict is changed for its known self, or back -/
theorem SR.swap {a : Addr} {kvs : List (Key × V)} {u u' : HO} {B' : Bs} (s : SR g B F r f S σ H) (hF : F a = some (.dK kvs)) (hu : H a = some u) (ku : u = .dK kvs ∨ ∃ o, u = .frz o (.dK kvs)) (ku' : u' = .dK kvs ∨ ∃ o, u' = .frz o (.dK kvs)) (eF : B'.F = B.F) (er : B'.r = B.r) (eH : B'.H = B.H) (eP : B'.P = B.P)
    (keep : ∀ o, B.H a = some o → isTbl o = false → a ∉ B.r → u' = o ∨ (a ∈ B'.L ∧ ∃ ob, u' = .frz ob o)) (eL : ∀ b, b ≠ a → b ∈ B.L → b ∈ B'.L) (eK : ∀ b, b ≠ a → B'.Lk b = B.Lk b) (eKa : ∀ o, B'.Lk a = some o → u' = o ∧ ∃ ob w, o = .frz ob w) : SR g B' F r f S σ (upd H a u') := by
  have nr : a ∉ r := fun z => by have := s.e1.rF a z; rw [hF] at this; cases this
  have nt : (∀ ps, u ≠ .tbl ps) ∧ (∀ φ, u ≠ .ext φ) ∧ (∀ fs, u ≠ .xd fs) ∧ (∀ vs, u ≠ .lst vs) := by
    rcases ku with rfl | ⟨o, rfl⟩
    · exact ⟨fun _ e => HO.noConfusion e, fun _ e => HO.noConfusion e, fun _ e => HO.noConfusion e, fun _ e => HO.noConfusion e⟩
    · exact ⟨fun _ e => HO.noConfusion e, fun _ e => HO.noConfusion e, fun _ e => HO.noConfusion e, fun _ e => HO.noConfusion e⟩
  have ne : ∀ {b : Addr} {w : HO}, H b = some w → w ≠ u → b ≠ a := fun e z y => by rw [y, hu] at e; cases e; exact z rfl
  have ke : ∀ {b : Addr} {w : HO}, b ≠ a → H b = some w → upd H a u' b = some w := fun e h => by rw [upd_ne e]; exact h
  have obr : ∀ {o : SO} {b : Addr}, b ≠ a → ObR g.K F r H o b → ObR g.K F r (upd H a u') o b := fun {o b} e z => by
    cases o with
    | lst ds => obtain ⟨vs, z1, z2⟩ := z; exact ⟨vs, ke e z1, z2⟩
    | dct ds => obtain ⟨vs, z1, z2⟩ := z; exact ⟨vs, ke e z1, z2⟩
  have cor : ∀ {d : D} {b : Addr}, b ≠ a → CoR g.K F r H d b → CoR g.K F r (upd H a u') d b := fun {d b} e z => by
    cases d with
    | lst ds => obtain ⟨vs, z1, z2⟩ := z; exact ⟨vs, ke e z1, z2⟩
    | dct ds => obtain ⟨vs, z1, z2⟩ := z; exact ⟨vs, ke e z1, z2⟩
    | _ => exact z
  refine ⟨⟨fun b w e => ?_, s.e1.fro, s.e1.len, fun i o b h1 h2 => obr (fun e => nr (by rw [← e]; exact List.mem_of_getElem? h2)) (s.e1.sto i o b h1 h2), s.e1.rnd, s.e1.rF, tabs_poke s.e1.tabs hu ⟨nt.1, nt.2.1⟩, s.e1.tF, s.e1.tr⟩, s.len, fun k sl e => ?_, fun k b hb => ?_, s.od,
    ⟨by rw [eF, er]; exact s.bs.le, fun b h => ?_, fun b o h1 h2 h3 => ?_, fun b h => by rw [eF, eH]; exact s.bs.nF b h, fun b h => by rw [er, eH]; exact s.bs.nr b h⟩, fun b o h => ?_, fun b o h => ?_⟩
  · by_cases hb : b = a
    · subst hb
      rw [hF] at e
      cases e
      rcases ku' with rfl | ⟨o, rfl⟩
      · exact .inl upd_same
      · exact .inr ⟨kvs, o, rfl, upd_same⟩
    · rcases s.e1.hold b w e with z | ⟨kvs, o, z1, z2⟩
      · exact .inl (ke hb z)
      · exact .inr ⟨kvs, o, z1, ke hb z2⟩
  · have z := s.slot k sl e
    cases sl with
    | un => trivial
    | val d => exact z
    | own d =>
      obtain ⟨b, z1, z2⟩ := z
      exact ⟨b, z1, cor (fun y => by have := (s.ow k b ⟨⟨d, e⟩, z1⟩).1; rw [y, hF] at this; cases this) z2⟩
    | ex fs => obtain ⟨a', dd, ws, z1, z2, z3, z4⟩ := z; exact ⟨a', dd, ws, z1, z2, ke (ne z3 fun z => nt.2.2.1 _ z.symm) z3, z4⟩
    | lam => obtain ⟨a', c, q, z1, z2, z3⟩ := z; exact ⟨a', c, q, z1, z2, ke (ne z3 fun z => nt.2.1 _ z.symm) z3⟩
  · obtain ⟨h1, h2, h3⟩ := s.ow k b hb
    exact ⟨h1, h2, by rw [eH]; exact h3⟩
  · rw [eH] at h
    by_cases e : b = a
    · exact ⟨_, by rw [e, upd_same], by rcases ku' with z | ⟨o, z⟩ <;> rw [z] <;> rfl⟩
    · rw [upd_ne e]; exact s.bs.there b h
  · rw [eH] at h1
    rw [er] at h3
    by_cases e : b = a
    · subst e
      rw [upd_same]
      rcases keep o h1 h2 h3 with z | ⟨z1, ob, z2⟩
      · exact .inl (by rw [z])
      · exact .inr ⟨z1, ob, by rw [z2]⟩
    · rcases s.bs.keep b o h1 h2 h3 with z | ⟨z1, ob, z2⟩
      · exact .inl (ke e z)
      · exact .inr ⟨eL b e z1, ob, ke e z2⟩
  · rw [eP] at h
    obtain ⟨h1, h2, h3, h4, h5⟩ := s.pin b o h
    have hb : b ≠ a := fun z => by rw [z, hF] at h3; cases h3
    exact ⟨ke hb h1, h2, h3, h4, h5⟩
  · by_cases e : b = a
    · subst e
      obtain ⟨z1, z2⟩ := eKa o h
      exact ⟨by rw [upd_same, z1], z2, (by rw [hF]; simp), nr⟩
    · rw [eK b e] at h
      obtain ⟨h1, h2, h3, h4⟩ := s.lck b o h
      exact ⟨ke e h1, h2, h3, h4⟩
/-- what is known of a dict before it is walked -/
structure Pre (B : Bs) (a : Addr) (u : HO) : Prop where
  kp : ∀ o, B.H a = some o → isTbl o = false → a ∉ B.r → u = o ∨ (a ∈ B.L ∧ ∃ ob, u = .frz ob o)
  lk : ∀ o, B.Lk a = some o → u = o ∧ ∃ ob w, o = .frz ob w
theorem SR.pre (s : SR g B F r f S σ H) {a : Addr} {u : HO} (hu : H a = some u) : Pre B a u :=
  ⟨fun o h1 ht h2 => by
    rcases s.bs.keep a o h1 ht h2 with z | ⟨z1, ob, z2⟩
    · rw [hu] at z; exact .inl (Option.some.inj z)
    · rw [hu] at z2; exact .inr ⟨z1, ob, Option.some.inj z2⟩, fun o h => by
    obtain ⟨h1, h2, _⟩ := s.lck a o h
    rw [hu] at h1
    exact ⟨Option.some.inj h1, h2⟩⟩
theorem SR.lock (s : SR g B F r f S σ H) {a : Addr} {kvs : List (Key × V)} {u : HO} {o' : Obj} (hF : F a = some (.dK kvs)) (hu : H a = some u) (ku : u = .dK kvs ∨ u = .frz o' (.dK kvs)) : SR g (B.locked a (.frz o' (.dK kvs))) F r f S σ (upd H a (.frz o' (.dK kvs))) := by
  have p := s.pre hu
  refine s.swap hF hu (ku.elim .inl fun z => .inr ⟨_, z⟩) (.inr ⟨_, rfl⟩) rfl rfl rfl rfl (fun o h1 h2 h3 => ?_) (fun b _ h => List.mem_cons_of_mem _ h) (fun b e => upd_ne e) (fun o h => ?_)
  · rcases p.kp o h1 h2 h3 with z | ⟨z1, ob, z2⟩
    · rcases ku with k | k
      · exact .inr ⟨List.mem_cons_self, o', by rw [← z, k]⟩
      · exact .inl (by rw [← z, k])
    · rcases ku with k | k
      · rw [k] at z2; cases z2
      · rw [k] at z2
        cases z2
        exact .inr ⟨List.mem_cons_self, o', rfl⟩
  · have h : upd B.Lk a (.frz o' (.dK kvs)) a = some o := h
    rw [upd_same] at h
    cases h
    exact ⟨rfl, _, _, rfl⟩
theorem SR.unlock {a : Addr} {kvs : List (Key × V)} {u : HO} {o' : Obj} (p : Pre B a u) (ku : u = .dK kvs ∨ u = .frz o' (.dK kvs)) (hF : F a = some (.dK kvs)) (s : SR g (B.locked a (.frz o' (.dK kvs))) F r f S σ H) : H a = some (.frz o' (.dK kvs)) ∧ SR g B F r f S σ (upd H a u) := by
  have hl := (s.lck a (.frz o' (.dK kvs)) upd_same).1
  refine ⟨hl, s.swap hF hl (.inr ⟨_, rfl⟩) (ku.elim .inl fun z => .inr ⟨_, z⟩) rfl rfl rfl rfl (fun o h1 h2 h3 => p.kp o h1 h2 h3) (fun b e h => ?_) (fun b e => (upd_ne e).symm) (fun o h => p.lk o h)⟩
  rcases List.mem_cons.mp h with z | z
  · exact absurd z e
  · exact z
/-- a loop behind which the dict is what it was -/
theorem RunS.unlock {a : Addr} {kvs : List (Key × V)} {u : HO} {o' : Obj} {res : RS} {W' : WX} (p : Pre B a u) (ku : u = .dK kvs ∨ u = .frz o' (.dK kvs)) (hF : F a = some (.dK kvs)) (h : RunS g W B F r res.noExc E) :
    RunS g W' (B.locked a (.frz o' (.dK kvs))) F r res ⟨fun σ' H' => H' a = some (.frz o' (.dK kvs)) ∧ E.nx σ' (upd H' a u), fun v H' => H' a = some (.frz o' (.dK kvs)) ∧ E.rt v (upd H' a u), fun σ' H' => H' a = some (.frz o' (.dK kvs)) ∧ E.bk σ' (upd H' a u), fun σ' H' => H' a = some (.frz o' (.dK kvs)) ∧ E.ct σ' (upd H' a u)⟩ := by
  cases res with
  | nx f S =>
    intro F' r' σ H' l s
    obtain ⟨h1, h2⟩ := s.unlock p ku (l.fz _ _ hF)
    exact ⟨h1, h F' r' σ _ l h2⟩
  | bk f S =>
    intro F' r' σ H' l s
    obtain ⟨h1, h2⟩ := s.unlock p ku (l.fz _ _ hF)
    exact ⟨h1, h F' r' σ _ l h2⟩
  | ct f S =>
    intro F' r' σ H' l s
    obtain ⟨h1, h2⟩ := s.unlock p ku (l.fz _ _ hF)
    exact ⟨h1, h F' r' σ _ l h2⟩
  | rt d fr f S =>
    intro F' r' σ H' v l s rx
    obtain ⟨h1, h2⟩ := s.unlock p ku (l.fz _ _ hF)
    refine ⟨h1, h F' r' σ _ v l h2 ?_⟩
    unfold RXc at rx ⊢
    split
    · rename_i e
      rw [if_pos e] at rx
      obtain ⟨b, e1, k1, k2, k3, k4⟩ := rx
      have hb : b ≠ a := fun z => by rw [z, l.fz _ _ hF] at k2; cases k2
      refine ⟨b, e1, ?_, k2, k3, k4⟩
      cases d with
      | lst ds => obtain ⟨vs, z1, z2⟩ := k1; exact ⟨vs, by rw [upd_ne hb]; exact z1, z2⟩
      | dct ds => obtain ⟨vs, z1, z2⟩ := k1; exact ⟨vs, by rw [upd_ne hb]; exact z1, z2⟩
      | _ => exact k1
    · rename_i e
      rw [if_neg e] at rx
      exact rx
  | exc c fs f S => exact (show False from h).elim
  | bad => exact h
/-- what is walked of a dict that is known -/
def ItK (X : Cx) (g : G) (tg e : Expr) (k : Nat) (it : List (Ky × D) → List D) : Prop := ∃ wi : TE → TI, PI X tg e (wi (tVar k)) ∧
  ∀ (B : Bs) (F : Hp) (r : List Addr) (σ : L2.St) (H : Hp) (a : Addr) (o : Obj) (kvs : List (Key × V)) (ds : List (Ky × D)) (R : It → Hp → Prop), σ[k]? = some (some (.ref a)) → H a = some (.frz o (.dK kvs)) → B.Lk a = some (.frz o (.dK kvs)) → RepK g.K F r ds kvs → (∀ J, Yields g B.Lk F r J (it ds) → R J H) → wi (tVar k) σ H R
theorem snd_forD (c : Good X W g q) {t : Tg} {tg e : Expr} {body : List Stmt} {k : Nat} {it : List (Ky × D) → List D} {mb : MS} {pos : Pos} (hi : ItK X g tg e k it) (hg : PG X tg (gT g.K t)) (hb : PSs X body (tS g W mb)) (hs : ∀ x, foldedSetIterable e X.env x = pure x := by intro _; rfl) :
    PS X (.For tg e body [] pos) (tS g W (sForD t k it mb)) := by
  obtain ⟨wi, hpi, hw⟩ := hi
  have base := ps_for (pos := pos) c.pass c.calm hpi hg hb hs
  refine ⟨fun pins s σ H D I ⟨B, F, r, f, S, sr, h⟩ => ?_⟩
  replace h : RunS g W B F r ((mVar k g.cx f S).thenS fun d f S => match d with
    | .dct kvs => (loop t mb g.cx (it kvs) f S).noExc
    | _ => .bad) D := h
  obtain ⟨v, hv, d, F1, r1, f1, S1, l1, s1, pd, z⟩ := mVar_run (tM.of (P := PD g) sr (Run.thenS h))
  cases d with
  | dct ds =>
    dsimp only at z
    have pd' : RepV g.K F1 r1 (.dct ds) v := pd
    cases pd' with
    | @dct a kvs _ hF rk =>
      have fin : ∀ {u : HO} {o' : Obj}, H a = some u → (u = .dK kvs ∨ u = .frz o' (.dK kvs)) → tFor (wi (tVar k)) (gT g.K t) (tS g W mb) ⟨fun σ' H' => H' a = some (.frz o' (.dK kvs)) ∧ D.nx σ' (upd H' a u), fun v H' => H' a = some (.frz o' (.dK kvs)) ∧ D.rt v (upd H' a u), fun σ' H' => H' a = some (.frz o' (.dK kvs)) ∧ D.bk σ' (upd H' a u), fun σ' H' => H' a = some (.frz o' (.dK kvs)) ∧ D.ct σ' (upd H' a u)⟩ σ (upd H a (.frz o' (.dK kvs))) := fun {u o'} hu ku => by
        have s2 := s1.lock hF hu ku
        exact hw _ F1 r1 σ _ a o' kvs ds _ hv upd_same upd_same rk fun J y => loop_run (m0 := 0) y s2 (RunS.unlock (s1.pre hu) ku hF z)
      rcases s1.e1.hold a _ hF with hu | ⟨kvs', o', e1, hu⟩
      · exact (ps_lock base).run pins s σ H D I ⟨a, .dK kvs, hu, trivial, fun od => fin hu (.inl rfl)⟩
      · cases e1
        refine base.run pins s σ H D I ?_
        have e0 : upd H a (.frz o' (.dK kvs)) = H := by
          funext b
          by_cases hb : b = a
          · rw [hb, upd_same, hu]
          · rw [upd_ne hb]
        have ue : ∀ {H' : Hp}, H' a = some (.frz o' (.dK kvs)) → upd H' a (.frz o' (.dK kvs)) = H' := fun {H'} e => by
          funext b
          by_cases hb : b = a
          · rw [hb, upd_same, e]
          · rw [upd_ne hb]
        have s2 := s1.lock (o' := o') hF hu (.inr rfl)
        rw [e0] at s2
        have zz := (RunS.unlock (g := g) (W' := W) (s1.pre hu) (.inr rfl) hF z).mono (E' := D) (fun σ' H' ⟨e, q⟩ => by rw [ue e] at q; exact q) (fun v H' ⟨e, q⟩ => by rw [ue e] at q; exact q) (fun σ' H' ⟨e, q⟩ => by rw [ue e] at q; exact q) (fun σ' H' ⟨e, q⟩ => by rw [ue e] at q; exact q)
        exact hw _ F1 r1 σ H a o' kvs ds _ hv hu upd_same rk fun J y => loop_run (m0 := 0) y s2 zz
  | _ => exact z.elim
theorem kyV (k : Ky) : RepV g.K F r (kyD k) (kV (kyK k)) := by
  cases k with
  | i n => exact .int n
  | s x => exact .str x
theorem RepK.getR : ∀ {ds : List (Ky × D)} {vs : List (Key × V)} {i : Nat} {k : Ky} {d : D}, RepK g.K F r ds vs → ds[i]? = some (k, d) → ∃ v, vs[i]? = some (kyK k, v) ∧ RepV g.K F r d v
  | _, _, _, _, _, .nil, e => by simp at e
  | _, _, 0, _, _, .cons h _, e => by simp at e; obtain ⟨rfl, rfl⟩ := e; exact ⟨_, rfl, h⟩
  | _, _, i + 1, k, d, .cons _ q, e => by
    obtain ⟨v, h1, h2⟩ := RepK.getR (i := i) (k := k) (d := d) q (by simpa using e)
    exact ⟨v, by simpa using h1, h2⟩
theorem lk_now {B : Bs} {a : Addr} {o : HO} {L0 : Hp} (hL : L0 a = some o) (s : SR g B F r f S σ H) (e : B.Lk = L0) : H a = some o := (s.lck a o (by rw [e]; exact hL)).1
/-- .. as yields_seq, of what is known of a walked dict -/
theorem yields_lk {L0 : Hp} {J : It} {n : Nat} {a : Addr} {o : HO} {Y : Nat → Hp → V → Hp → Prop} {ds : List D} (hL : L0 a = some o) (w : Walk J n (fun H => H a = some o) Y) (hn : ds.length = n)
    (hY : ∀ B F2 r2 f S σ H i d x H', Le F r F2 r2 → SR g B F2 r2 f S σ H → ds[i]? = some d → Y i H x H' → ∃ F3, Le F2 r2 F3 r2 ∧ SR g B F3 r2 f S σ H' ∧ RepV g.K F3 r2 d x) : Yields g L0 F r J ds := by
  intro B F2 r2 f S σ H eB l s
  have gg := lk_now hL s eB
  refine ⟨fun i hi => w.goes i H (by omega) gg, by rw [hn]; exact w.stops H gg, fun i d x H' hd hy => ?_⟩
  have hi : i < n := by
    obtain ⟨z, _⟩ := List.getElem?_eq_some_iff.mp hd
    omega
  exact hY B F2 r2 f S σ H i d x H' l s hd (w.yields i H x H' hi gg hy)
theorem itk_items (c : Good X W g q) {k : Nat} {x : Str} {elts : List Expr} {kk : Nat} {p apos cpos tpos : Pos} (hN : q.N[k]? = some x) (hv : Vis q.sc x) (hdb : (x == ("__debug__" : Str)) = false := by decide) (hcd : (x == ("__classdict__" : Str)) = false := by decide) (hline : (apos.endLine == cpos.line) = true := by rfl) :
    ItK X g (.Tuple elts kk tpos) (.Call (.Attribute (.Name x p) "items" apos) [] [] cpos) k itItems := by
  refine ⟨iItems, pi_items (c.var hN hv hdb hcd) rfl hline, fun B F r σ H a o kvs ds R hk hH hL rk hR => ⟨_, hk, a, o, kvs, rfl, hH, hR _ ?_⟩⟩
  refine yields_lk hL walk_items (by unfold itItems; rw [List.length_map]; exact rk.length) fun B F2 r2 f S σ H i d x H' l s hd y => ?_
  unfold itItems at hd
  rw [List.getElem?_map] at hd
  cases e : ds[i]? with
  | none => rw [e] at hd; cases hd
  | some kd =>
    rw [e] at hd
    cases hd
    obtain ⟨key, dd⟩ := kd
    obtain ⟨v, z1, z2⟩ := rk.getR e
    exact ypair s y (by rw [z1]; rfl) (by rw [z1]; rfl) (kyV key) (z2.le l)
theorem itk_vals (c : Good X W g q) {k : Nat} {x : Str} {tg : Expr} {p apos cpos : Pos} (hN : q.N[k]? = some x) (hv : Vis q.sc x) (hdb : (x == ("__debug__" : Str)) = false := by decide) (hcd : (x == ("__classdict__" : Str)) = false := by decide) (hline : (apos.endLine == cpos.line) = true := by rfl) :
    ItK X g tg (.Call (.Attribute (.Name x p) "values" apos) [] [] cpos) k itVals := by
  refine ⟨iVals, pi_values (c.var hN hv hdb hcd) rfl hline, fun B F r σ H a o kvs ds R hk hH hL rk hR => ⟨_, hk, a, o, kvs, rfl, hH, hR _ ?_⟩⟩
  refine yields_lk hL walk_values (by unfold itVals; rw [List.length_map]; exact rk.length) fun B F2 r2 f S σ H i d x H' l s hd y => ?_
  unfold itVals at hd
  rw [List.getElem?_map] at hd
  cases e : ds[i]? with
  | none => rw [e] at hd; cases hd
  | some kd =>
    rw [e] at hd
    cases hd
    obtain ⟨key, dd⟩ := kd
    obtain ⟨v, z1, z2⟩ := rk.getR e
    obtain ⟨rfl, kx, y⟩ := y
    rw [z1] at y
    cases y
    exact ⟨F2, .refl, s, z2.le l⟩
theorem itk_keys (c : Good X W g q) {k : Nat} {x : Str} {tg : Expr} {p : Pos} (hN : q.N[k]? = some x) (hv : Vis q.sc x) (hdb : (x == ("__debug__" : Str)) = false := by decide) (hcd : (x == ("__classdict__" : Str)) = false := by decide) :
    ItK X g tg (.Name x p) k itKeys := by
  refine ⟨iKeys, pi_keys (c.var hN hv hdb hcd), fun B F r σ H a o kvs ds R hk hH hL rk hR => ⟨_, hk, a, o, rfl, .inl ⟨kvs, hH, hR _ ?_⟩⟩⟩
  refine yields_lk hL walk_keys (by unfold itKeys; rw [List.length_map]; exact rk.length) fun B F2 r2 f S σ H i d x H' l s hd y => ?_
  unfold itKeys at hd
  rw [List.getElem?_map] at hd
  cases e : ds[i]? with
  | none => rw [e] at hd; cases hd
  | some kd =>
    rw [e] at hd
    cases hd
    obtain ⟨key, dd⟩ := kd
    obtain ⟨v, z1, z2⟩ := rk.getR e
    obtain ⟨rfl, kx, vx, y, rfl⟩ := y
    rw [z1] at y
    cases y
    exact ⟨F2, .refl, s, kyV key⟩
/-! ### comprehensions over dicts -/
theorem mVar_then {α β : Type} {P : Bs → Hp → List Addr → Fr → L2.St → Hp → α → β → Prop} {k : Nat} {j : D → M α} {Q : β → Hp → Prop} (s : SR g B F r f S σ H) (h : Run g W P B F r σ (mBind (mVar k) j g.cx f S) Q) : ∃ v d F' r' f' S', σ[k]? = some (some v) ∧ Le F r F' r' ∧ SR g B F' r' f' S' σ H ∧ RepV g.K F' r' d v ∧ Run g W P B F' r' σ (j d g.cx f' S') Q := by
  obtain ⟨v, hv, d, F1, r1, f1, S1, l1, s1, pd, z⟩ := mVar_run (tM.of (P := PD g) s (Run.bind (P := PD g) h))
  exact ⟨v, d, F1, r1, f1, S1, hv, l1, s1, pd, z⟩
theorem snd_compD (c : Good X W g q) (hN : q.N.Nodup) {elt tg iter : Expr} {ifs : List Expr} {scope : Scope} {own : List (Str × Nat)} {pos : Pos} {t : Tg} {k : Nat} {it : List (Ky × D) → List D} {tst : M Bool} {me : M D} (hi : ItK X g tg iter k it) (ok : blkC q.N q.sc scope own = true)
    (hg : ∀ X', Good X' WF g (q.blk scope) → PG X' tg (gT g.K t)) (ht : ∀ X', Good X' WF g (q.blk scope) → PTs X' ifs (tB g WF tst)) (he : ∀ X', Good X' WF g (q.blk scope) → PE X' elt (tE g WF me))
    (hs : ∀ x, foldedSetIterable iter X.env x = pure x := by intro _; rfl) : PE X (.ListComp elt [⟨tg, iter, ifs, 0⟩] scope pos) (tX g W (compD (own.map (·.2)) t k it tst me)) := by
  obtain ⟨wi, hpi, hw⟩ := hi
  have base := pe_lc (pos := pos) c.calm (by rw [c.N]; exact hN) hpi (blkOk_by (by rw [c.N, c.sc]; exact ok)) (fun s H C cl fp => hg _ (c.blk s H scope cl C fp)) (fun s H C cl fp => ht _ (c.blk s H scope cl C fp)) (fun s H C cl fp => he _ (c.blk s H scope cl C fp)) hs
  refine ⟨fun pins s σ H Q I ⟨B, F, r, f, S, sr, h⟩ => ?_⟩
  obtain ⟨v, d, F1, r1, f1, S1, hv, l1, s1, pd, z⟩ := mVar_then sr h
  cases d with
  | dct ds =>
    replace z : Run g W (PX g) B F1 r1 σ (compK (own.map (·.2)) t tst me (it ds) g.cx f1 S1) Q := z
    cases pd with
    | @dct a kvs _ hF rk =>
      have key : ∀ {u : HO} {o' : Obj} {Qe : VK}, (∀ v H', H' a = some (.frz o' (.dK kvs)) → Q v (upd H' a u) → Qe v H') → H a = some u → (u = .dK kvs ∨ u = .frz o' (.dK kvs)) → tLc (wi (tVar k)) (gT g.K t) (tB g WF tst) (tE g WF me) (own.map (·.2)) σ (upd H a (.frz o' (.dK kvs))) Qe := fun {u o' Qe} hq hu ku => by
        have s2 := s1.lock hF hu ku
        refine hw (B.locked a (.frz o' (.dK kvs))) F1 r1 σ _ a o' kvs ds _ hv upd_same upd_same rk fun J y Dd hD => ?_
        unfold compK at z
        split at z
        · rename_i hc
          rw [Bool.and_eq_true] at hc
          refine comp_run y s2 hc.2 ?_ Dd hD
          revert z
          cases comp (own.map (·.2)) t tst me g.cx (it ds) [] f1 S1 with
          | ok acc f' S' =>
            intro z F' r' H' b l s' n
            obtain ⟨h1, h2⟩ := s'.unlock (s1.pre hu) ku (l.fz _ _ hF)
            refine hq _ _ h1 (z F' r' _ _ l (s1.back hc.1 l h2) (px_new (New.back hc.1 ?_)))
            obtain ⟨vs', q1, q2⟩ := n.co
            have hb : b ≠ a := fun e => by have := n.nF; rw [e, l.fz _ _ hF] at this; cases this
            exact ⟨⟨vs', by rw [upd_ne hb]; exact q1, q2⟩, n.nF, n.nr, n.nB, n.no, n.np⟩
          | exc c fs f S => exact fun z => z.elim
          | bad => exact fun z => z.elim
        · exact z.elim
      rcases s1.e1.hold a _ hF with hu | ⟨kvs', o', e1, hu⟩
      · exact (pe_lock base).run pins s σ H Q I ⟨a, .dK kvs, hu, trivial, fun od => key (fun v H' e q => ⟨e, q⟩) hu (.inl rfl)⟩
      · cases e1
        refine base.run pins s σ H Q I ?_
        have e0 : upd H a (.frz o' (.dK kvs)) = H := by
          funext b
          by_cases hb : b = a
          · rw [hb, upd_same, hu]
          · rw [upd_ne hb]
        have kk := key (o' := o') (Qe := Q) (fun v H' e q => by
          have ue : upd H' a (.frz o' (.dK kvs)) = H' := by
            funext b
            by_cases hb : b = a
            · rw [hb, upd_same, e]
            · rw [upd_ne hb]
          rw [ue] at q
          exact q) hu (.inr rfl)
        rw [e0] at kk
        exact kk
  | _ => exact z.elim
end
end Mi
set_option Elab.async false
set_option linter.all false
set_option maxRecDepth 100000
/-! Mi, part 22: dict displays, get, items, index. -/
namespace Mi
open PySem PySem.Spec L2
inductive RepP (K : PySem.W.Frag) (F : Hp) (r : List Addr) : List (D × D) → List (V × V) → Prop
  | nil : RepP K F r [] []
  | cons {a b : D} {v w : V} {ds : List (D × D)} {vs : List (V × V)} : RepV K F r a v → RepV K F r b w → RepP K F r ds vs → RepP K F r ((a, b) :: ds) ((v, w) :: vs)
def PPr (g : G) : Bs → Hp → List Addr → Fr → L2.St → Hp → List (D × D) → List (V × V) → Prop := fun _ F r _ _ _ d v => RepP g.K F r d v
def tPs (g : G) (W : WX) : List (M D × M D) → List (TE × TE)
  | [] => []
  | (k, v) :: r => (tE g W k, tE g W v) :: tPs g W r
section
variable {X : Cx} {g : G} {W : WX} {q : Qc} {B : Bs} {F F' H H' : Hp} {r r' : List Addr} {σ : L2.St} {f : Fr} {S : Store} {E : Ends}
theorem tPairs_mono : ∀ {kvs : List (M D × M D)} {H : Hp} {Q Q' : List (V × V) → Hp → Prop}, tPairs (tPs g W kvs) σ H Q → (∀ v H, Q v H → Q' v H) → tPairs (tPs g W kvs) σ H Q'
  | [], H, Q, Q', h, q => q _ _ h
  | (k, v) :: kvs, H, Q, Q', h, q => tM.mono h fun x H1 z => tM.mono z fun y H2 z2 => tPairs_mono z2 fun ps H3 z3 => q _ _ z3
theorem mPairs_run : ∀ {kvs : List (M D × M D)} {H F : Hp} {r : List Addr} {f : Fr} {S : Store} {Q : List (V × V) → Hp → Prop}, SR g B F r f S σ H → Run g W (PPr g) B F r σ (mPairs kvs g.cx f S) Q → tPairs (tPs g W kvs) σ H Q
  | [], H, F, r, f, S, Q, s, h => Run.ok (P := PPr g) (a := []) h s .nil
  | (k, v) :: kvs, H, F, r, f, S, Q, s, h => by
    refine tM.mono (tM.of (P := PD g) s (Run.bind h)) fun x H1 ⟨a, F1, r1, f1, S1, l1, s1, p1, q1⟩ => ?_
    refine tM.mono (tM.of (P := PD g) s1 (Run.bind q1)) fun y H2 ⟨b, F2, r2, f2, S2, l2, s2, p2, q2⟩ => ?_
    refine tPairs_mono (mPairs_run s2 (Run.bind (P := PPr g) q2)) fun ps H3 ⟨ds, F3, r3, f3, S3, l3, s3, p3, q3⟩ => ?_
    exact Run.ok (P := PPr g) (a := (a, b) :: ds) q3 s3 (.cons (RepV.le (l2.trans l3) p1) (RepV.le l3 p2) p3)
inductive DisE (X : Cx) (g : G) (W : WX) : List (Option Expr) → List Expr → List (M D × M D) → Prop
  | nil : DisE X g W [] [] []
  | cons {k v : Expr} {ks : List (Option Expr)} {vs : List Expr} {m n : M D} {ms : List (M D × M D)} : PE X k (tE g W m) → PE X v (tE g W n) → DisE X g W ks vs ms → DisE X g W (some k :: ks) (v :: vs) ((m, n) :: ms)
theorem DisE.pps {pos : Pos} {ks : List (Option Expr)} {vs : List Expr} {ms : List (M D × M D)} (h : DisE X g W ks vs ms) : PPs X pos ks vs (tPs g W ms) := by
  induction h with
  | nil => exact pps_nil
  | cons h1 h2 h3 ih => exact pps_cons h1 h2 ih
theorem keyed_rep : ∀ {ds : List (D × D)} {vs : List (V × V)} {kvs : List (Ky × D)}, RepP g.K F r ds vs → keyed asKy ds = some kvs → ∃ ks : List (Key × V), vs = ks.map (fun kv => (kV kv.1, kv.2)) ∧ RepK g.K F r kvs ks
  | [], _, kvs, .nil, h => by cases h; exact ⟨[], rfl, .nil⟩
  | (a, b) :: ds, _, kvs, .cons h1 h2 h3, h => by
    unfold keyed at h
    cases e1 : asKy a with
    | none => rw [e1] at h; cases h
    | some k =>
      cases e2 : keyed asKy ds with
      | none => rw [e1, e2] at h; cases h
      | some ks =>
        rw [e1, e2] at h
        cases h
        obtain ⟨ks', z1, z2⟩ := keyed_rep h3 e2
        refine ⟨(kyK k, _) :: ks', ?_, .cons h2 z2⟩
        rw [z1, List.map_cons]
        rw [asKy_V (H := fun _ => none) (.inl h1) e1]
theorem snd_dct0 {pos : Pos} : PE X (.Dict [] [] pos) (tX g W (mDct [])) :=
  PE.imp pe_dnewK fun σ H Q ⟨B, F, r, f, S, s, h⟩ p hp => by
    obtain ⟨s', n⟩ := s.newK hp (.nil (K := g.K))
    exact h F r _ _ .refl s' (px_new n)
theorem snd_dct {pos : Pos} {keys : List (Option Expr)} {values : List Expr} {ms : List (M D × M D)} (hd : DisE X g W keys values ms) (hall : keys.all (·.isSome) = true) (hl : keys.length = values.length) (h0 : keys ≠ []) (h15 : keys.length ≤ 15) : PE X (.Dict keys values pos) (tX g W (mDct ms)) :=
  PE.imp (pe_disp hd.pps hall hl h0 h15) fun σ H Q ⟨B, F, r, f, S, s, h⟩ p hp => by
    obtain ⟨n1, n2, n3, n4, n5, n6⟩ := s.free hp
    have s1 := (s.alloc hp (.dK [])).pinL (a := p) upd_same rfl n1 n2 n4
    have h' : Run g W (PX g) B F r σ ((mPairs ms g.cx f S).bind fun ps f S => dctK asKy (mergeKy []) ps g.cx f S) Q := h
    refine mPairs_run s1 ?_
    revert h'
    cases mPairs ms g.cx f S with
    | bad => exact fun h => h
    | exc c fs f2 S2 => exact fun h F2 r2 H2 dd vs l2 s2 h1 h2 => h F2 r2 H2 dd vs l2 (s2.unpin n6).1 h1 h2
    | ok ds f2 S2 =>
      intro h' F2 r2 H2 ps l2 s2 rp
      obtain ⟨s3, k1, k2, k3, k4⟩ := s2.unpin n6
      refine ⟨k1, ?_⟩
      replace h' : Run g W (PX g) B F r σ (dctK asKy (mergeKy []) ds g.cx f2 S2) Q := h'
      unfold dctK at h'
      cases e : keyed asKy ds with
      | none => rw [e] at h'; exact h'.elim
      | some kvs =>
        rw [e] at h'
        dsimp only at h'
        split at h'
        · rename_i hle
          obtain ⟨ks, z1, z2⟩ := keyed_rep rp e
          refine ⟨ks, z1, by rw [← z2.length]; exact hle, ?_⟩
          have z3 := RepK.merge (kvs := []) (vs := []) .nil z2
          have s4 := s3.pokeO (u' := .dK (mergeK [] ks)) k1 (.dct .nil) k2 k3 n3 k4 n6
          exact h' F2 r2 _ _ l2 s4 (px_new ⟨⟨_, upd_same, z3⟩, k2, k3, n3, k4, n6⟩)
        · exact h'.elim
/-! ### d.get(k, z) -/
def mGet (a k : Op) (z : M D) : M D := mBind (opE a) fun x => mBind (isD x) fun _ => mBind (opE k) fun y => mBind z fun w => at2 (getK w) x y
where isD (x : Nat ⊕ D) : M Unit := fun _ f S => match opR f x with
  | some d => (match dctOf S d with
    | some _ => .ok () f S
    | none => .bad)
  | none => .bad
theorem isD_then {α : Type} {P : Bs → Hp → List Addr → Fr → L2.St → Hp → α → V → Prop} {x : Nat ⊕ D} {v : V} {k : Unit → M α} {Q : VK} (s : SR g B F r f S σ H) (px : PO1 g F r σ x v) (h : Run g W P B F r σ (mBind (mGet.isD x) k g.cx f S) Q) :
    ∃ a, v = .ref a ∧ IsD H a ∧ Run g W P B F r σ (k () g.cx f S) Q := by
  replace h : Run g W P B F r σ ((match opR f x with
    | some d => (match dctOf S d with
      | some _ => .ok () f S
      | none => .bad)
    | none => .bad : R Unit).bind fun u f S => k u g.cx f S) Q := h
  cases e : opR f x with
  | none => rw [e] at h; exact h.elim
  | some d =>
    rw [e] at h
    dsimp only at h
    cases e2 : dctOf S d with
    | none => rw [e2] at h; exact h.elim
    | some kvs =>
      rw [e2] at h
      obtain ⟨a, vs, rfl, h1, _⟩ := (s.opR px e).dctOf s.e1 e2
      exact ⟨a, rfl, .inl ⟨vs, h1⟩, h⟩
theorem snd_get2 (c : Good X W g q) {o e z : Expr} {oo oe : Op} {mz : M D} {apos cpos : Pos} (ho : PE X o (tOp1 g W oo)) (he : PE X e (tOp1 g W oe)) (hz : PE X z (tE g W mz)) (hb : attributeBase o "get" X.env (eval o X.env) = eval o X.env := by rfl) (hline : (apos.endLine == cpos.line) = true := by rfl)
    (hs : starEach [e, z] X.env = [(false, eval e X.env), (false, eval z X.env)] := by rfl) : PE X (.Call (.Attribute o "get" apos) [e, z] [] cpos) (tE g W (mGet oo oe mz)) :=
  PE.imp (pe_dget2 (by have := c.un; omega) ho he hz ⟨hb, by rw [hs]; rfl, hline, by rw [hs]; rfl⟩) fun σ H Q ⟨B, F, r, f, S, s, h⟩ => by
    refine tOp1.mono (opE_then s h) fun v H1 ⟨x, F1, r1, f1, S1, l1, s1, px, q1⟩ => ?_
    obtain ⟨a, rfl, hd, q1⟩ := isD_then s1 px q1
    refine ⟨a, rfl, hd, ?_⟩
    refine tOp1.mono (opE_then s1 q1) fun w H2 ⟨y, F2, r2, f2, S2, l2, s2, py, q2⟩ => ?_
    refine tM.mono (tM.of (P := PD g) s2 (Run.bind q2)) fun u H3 ⟨d3, F3, r3, f3, S3, l3, s3, pz, q3⟩ => ?_
    unfold at2 at q3
    cases e1 : opR f3 x with
    | none => rw [e1] at q3; exact q3.elim
    | some d1 =>
      cases e2 : opR f3 y with
      | none => rw [e1, e2] at q3; exact q3.elim
      | some d2 =>
        rw [e1, e2] at q3
        dsimp only at q3
        have b1 := s3.opR ((px.le l2).le l3) e1
        have b2 := s3.opR (py.le l3) e2
        cases e4 : getK d3 S3 d1 d2 with
        | none => rw [e4] at q3; exact q3.elim
        | some res =>
          rw [e4] at q3
          unfold getK at e4
          cases e5 : dctOf S3 d1 with
          | none => rw [e5] at e4; cases e4
          | some kvs =>
            cases e6 : asKy d2 with
            | none => rw [e5, e6] at e4; cases e4
            | some kk =>
              rw [e5, e6] at e4
              replace e4 : some ((valK kvs kk).getD d3) = some res := e4
              obtain ⟨a', vs, ea, h1, h2⟩ := b1.dctOf s3.e1 e5
              cases ea
              have ey := asKy_V b2 e6
              refine ⟨_, by rw [ey]; exact h1.get _, ?_⟩
              rcases h2.val kk with ⟨d', v', z1, z2, z3⟩ | ⟨z1, z2⟩
              · rw [z1] at e4
                cases e4
                rw [z2]
                exact Run.ok (P := PD g) (a := d') q3 s3 z3
              · rw [z1] at e4
                cases e4
                rw [z2]
                exact Run.ok (P := PD g) (a := d3) q3 s3 pz
/-! ### list(d.items()) -/
/-- .. of a dict, walked or not -/
def rItemsR : V → Hp → VK → Prop := fun x H Q => ∃ (d : Addr) (kvs : List (Key × V)), x = .ref d ∧ Rd H d (.dK kvs) ∧
  ∀ (H' : Hp) (p : Addr) (ts : List Addr), (∀ b o, H b = some o → H' b = some o) → H p = none → (∀ t ∈ ts, H t = none) → p ∉ ts → H' p = some (.lst (ts.map V.ref)) → Paired (fun (t : Addr) (q : Key × V) => H' t = some (.tup [kV q.1, q.2])) ts kvs → Q (.ref p) H'
/-- what is there stays, more may come -/
theorem SR.ext (s : SR g B F r f S σ H) (ke : ∀ b o, H b = some o → H' b = some o) : SR g B F r f S σ H' := by
  have obr : ∀ {o : SO} {a : Addr}, ObR g.K F r H o a → ObR g.K F r H' o a := fun {o a} z => by
    cases o with
    | lst ds => obtain ⟨vs, z1, z2⟩ := z; exact ⟨vs, ke _ _ z1, z2⟩
    | dct ds => obtain ⟨vs, z1, z2⟩ := z; exact ⟨vs, ke _ _ z1, z2⟩
  have cor : ∀ {d : D} {a : Addr}, CoR g.K F r H d a → CoR g.K F r H' d a := fun {d a} z => by
    cases d with
    | lst ds => obtain ⟨vs, z1, z2⟩ := z; exact ⟨vs, ke _ _ z1, z2⟩
    | dct ds => obtain ⟨vs, z1, z2⟩ := z; exact ⟨vs, ke _ _ z1, z2⟩
    | _ => exact z
  refine ⟨⟨fun a w e => ?_, s.e1.fro, s.e1.len, fun i o a h1 h2 => obr (s.e1.sto i o a h1 h2), s.e1.rnd, s.e1.rF, s.e1.tabs.ext ke, s.e1.tF, s.e1.tr⟩, s.len, fun k sl e => ?_, s.ow, s.od, ⟨s.bs.le, fun a h => ?_, fun a o h1 h2 h3 => ?_, s.bs.nF, s.bs.nr⟩, fun a o h => ?_, fun a o h => ?_⟩
  · rcases s.e1.hold a w e with z | ⟨kvs, o, z1, z2⟩
    · exact .inl (ke _ _ z)
    · exact .inr ⟨kvs, o, z1, ke _ _ z2⟩
  · have z := s.slot k sl e
    cases sl with
    | un => trivial
    | val d => exact z
    | own d => obtain ⟨b, z1, z2⟩ := z; exact ⟨b, z1, cor z2⟩
    | ex fs => obtain ⟨a', dd, vs, z1, z2, z3, z4⟩ := z; exact ⟨a', dd, vs, z1, z2, ke _ _ z3, z4⟩
    | lam => obtain ⟨a, c, q, z1, z2, z3⟩ := z; exact ⟨a, c, q, z1, z2, ke _ _ z3⟩
  · obtain ⟨o, e, t⟩ := s.bs.there a h
    exact ⟨o, ke _ _ e, t⟩
  · rcases s.bs.keep a o h1 h2 h3 with z | ⟨z1, ob, z2⟩
    · exact .inl (ke _ _ z)
    · exact .inr ⟨z1, ob, ke _ _ z2⟩
  · obtain ⟨h1, h2⟩ := s.pin a o h
    exact ⟨ke _ _ h1, h2⟩
  · obtain ⟨h1, h2⟩ := s.lck a o h
    exact ⟨ke _ _ h1, h2⟩
/-- new tuples are frozen, all of them -/
theorem SR.frzT : ∀ {ts : List Addr} {ds : List (Ky × D)} {kvs : List (Key × V)} {F : Hp}, SR g B F r f S σ H' → (∀ t ∈ ts, F t = none ∧ t ∉ r ∧ B.H t = none ∧ (∀ k, ¬ ownAt f σ k t) ∧ B.P t = none) → Paired (fun (t : Addr) (q : Key × V) => H' t = some (.tup [kV q.1, q.2])) ts kvs → RepK g.K F r ds kvs →
    ∃ F', Le F r F' r ∧ SR g B F' r f S σ H' ∧ RepL g.K F' r (itItems ds) (ts.map V.ref) ∧ ∀ b, b ∉ ts → F' b = F b
  | [], ds, _, F, s, _, .nil, rk => by
    cases rk
    exact ⟨F, .refl, s, .nil, fun _ _ => rfl⟩
  | _ :: _, [], _, _, _, _, .cons _ _, rk => by cases rk
  | t :: ts, (k, d) :: ds, _, F, s, hn, .cons ht hr, .cons hv rk => by
    obtain ⟨n1, n2, n3, n4, n6⟩ := hn t List.mem_cons_self
    by_cases hm : t ∈ ts
    · obtain ⟨F', l, s', rp, off⟩ := SR.frzT s (fun b hb => hn b (List.mem_cons_of_mem _ hb)) hr rk
      rename_i vv _
      have : F' t = some (.tup [kV (kyK k), vv]) ∨ F' t = none := by
        cases e : F' t with
        | none => exact .inr rfl
        | some u =>
          rcases s'.e1.hold t u e with z | ⟨kvs, o, z1, z2⟩
          · rw [ht] at z; exact .inl z.symm
          · rw [ht] at z2; cases z2
      rcases this with e | e
      · exact ⟨F', l, s', .cons (.tup (.inl (.inl e)) (.cons (kyV k) (.cons (hv.le l) .nil))) rp, fun b hb => off b fun z => hb (List.mem_cons_of_mem _ z)⟩
      · obtain ⟨l2, s2⟩ := s'.fix ht trivial e n2 n3 n4 n6
        exact ⟨_, l.trans l2, s2, .cons (.tup (.inl (.inl upd_same)) (.cons (kyV k) (.cons ((hv.le l).le l2) .nil))) (rp.le l2), fun b hb => by rw [upd_ne (fun z => hb (by rw [z]; exact List.mem_cons_self))]; exact off b fun z => hb (List.mem_cons_of_mem _ z)⟩
    · obtain ⟨l2, s2⟩ := s.fix ht trivial n1 n2 n3 n4 n6
      obtain ⟨F', l, s', rp, off⟩ := SR.frzT s2 (fun b hb => by
        obtain ⟨m1, m2, m3, m4, m5⟩ := hn b (List.mem_cons_of_mem _ hb)
        exact ⟨by rw [upd_ne (fun z => hm (by rw [← z]; exact hb))]; exact m1, m2, m3, m4, m5⟩) hr (rk.le l2)
      refine ⟨F', l2.trans l, s', .cons (.tup (.inl (.inl (l.fz _ _ upd_same))) (.cons (kyV k) (.cons ((hv.le l2).le l) .nil))) rp, fun b hb => ?_⟩
      rw [off b (fun z => hb (List.mem_cons_of_mem _ z)), upd_ne (fun z => hb (by rw [z]; exact List.mem_cons_self))]
def pItems (S : Store) (a : D) : Option DX := (dctOf S a).map fun kvs => (.lst (itItems kvs), true)
theorem prim_items : Prim1 g (PX g) pItems rItemsR := by
  intro B F r f S σ H d x res Q s bx h q
  unfold pItems at h
  cases e : dctOf S d with
  | none => rw [e] at h; cases h
  | some kvs =>
    rw [e] at h
    cases h
    obtain ⟨a, vs, rfl, h1, h2⟩ := bx.dctOf s.e1 e
    refine ⟨a, vs, rfl, h1, fun H' p ts ke hp ht hpt hH hpr => ?_⟩
    obtain ⟨n1, n2, n3, n4, n5, n6⟩ := s.free hp
    have s1 := s.ext ke
    obtain ⟨F', l, s2, rp, off⟩ := SR.frzT s1 (fun t hm => by
      obtain ⟨m1, m2, m3, m4, m5, m6⟩ := s.free (ht t hm)
      exact ⟨m1, m2, m3, m4, m6⟩) hpr h2
    exact q F' r H' _ l s2 (px_new ⟨⟨_, hH, rp⟩, by rw [off p hpt]; exact n1, n2, n3, n4, n6⟩)
end
section
open PySem.Calls PyProof.Rows
variable {X : Cx} {e : Expr} {te : TE} {p apos cpos pos : Pos}
theorem pe_itemsR (hc : X.calm = true) (he : PE X e te) (hg : Gl X "list") (hm : X.mg "list" = none) (hbase : attributeBase e "items" X.env (eval e X.env) = eval e X.env) (hline : (apos.endLine == cpos.line) = true)
    (hs : starEach [.Call (.Attribute e "items" apos) [] [] cpos] X.env = (false, eval (.Call (.Attribute e "items" apos) [] [] cpos) X.env) :: starEach [] X.env := by rfl) :
    PE X (.Call (.Name "list" p) [.Call (.Attribute e "items" apos) [] [] cpos] [] pos) (fun σ H Q => te σ H fun x H1 => rItemsR x H1 Q) := by
  refine ⟨fun pins s σ H Q I hq => ?_⟩
  refine wpAny_Call_Name_kw (ld_blt I hg hm (u := .type "list") rfl ?_)
  refine PyProof.Rows.callWith_type1 ?_ hs rfl
  rw [hs]
  show wpAny _ _ (spliced ((false, eval (.Call (.Attribute e "items" apos) [] [] cpos) X.env) :: backTo pos (starEach [] X.env))) _ _ s
  refine Calls.spliced_cons ?_
  refine wpAny_Call_method (T := "dict") (id := "dict.items") hbase rfl hline F.plainAttrs_dict F.slot_dict_items F.type_dict_items (thn (he.run pins s σ H _ I hq) fun u s1 ⟨x, H1, I1, rx, d, kvs, ex, hd, q⟩ => ?_)
  subst ex
  obtain rfl : u = Value.ref d := rx
  obtain ⟨hz, hs0, vs, kv, hdo⟩ := dk_rd I1.hok hd
  obtain ⟨ep, hat⟩ := hdo.dictAt
  have lk : kvs.length = vs.length := Paired.length kv
  have I2 : Inv X pins σ H1 { s1 with heap := s1.heap.push { cls := .type "dict_items", data := .fields #[.ref d] } } := I1.kept (t' := s1.toks) fun b ob q => Heap.get?_push_of_some _ q
  refine ⟨hdo.typeIs, hdo.mapOf.noDict, ?_⟩
  show wpAny _ _ (callWith cpos (.builtin "dict.items") [.ref d] [] []) _ X.xe s1
  refine method_meetsIn F.slot_dict_items F.entry_dict_items rfl (PySem.evalArgs_none ⟨rfl, hdo.typeIs, F.args_dict_items_1 _, _, meets_dict_items (mixKind X.prog X.w) d hs0, ⟨vs, hdo⟩, ?_⟩)
  refine Calls.spliced_nil ?_
  refine PySem.W.kdx_call (knd := mixKind X.prog X.w) (kvs := vs) (ep := ep) (I1.ok.hd hc) ⟨_, Heap.get?_push_size _ rfl, rfl, rfl⟩ (hat.push _) (by omega) fun h' tk acc c as hk hS hl hG hacc => ?_
  obtain ⟨H', k1, k2, k3, k4, k5, k6, J⟩ := LiI.items_laid (tk := tk) I2 hz kv hk hS hl hG hacc
  exact ⟨.ref _, H', J, rfl, q H' _ as k1 k2 k3 k4 k5 k6⟩
end
section
variable {X : Cx} {g : G} {W : WX} {q : Qc}
theorem snd_listItems (c : Good X W g q) {e : Expr} {oe : Op} {p apos cpos pos : Pos} (hg : GlQ q "list") (hm : g.mg "list" = none) (he : PE X e (tOp1 g W oe)) (hb : attributeBase e "items" X.env (eval e X.env) = eval e X.env := by rfl) (hline : (apos.endLine == cpos.line) = true := by rfl) :
    PE X (.Call (.Name "list" p) [.Call (.Attribute e "items" apos) [] [] cpos] [] pos) (tX g W (mUn pItems oe)) :=
  PE.imp (pe_itemsR c.calm he (by unfold Gl Env.kindOf; rw [c.sc]; exact hg) (by rw [c.mg]; exact hm) hb hline) fun σ H Q h => mUn_run prim_items h
/-! ### x.index(y), texts -/
theorem prim_sindex : Prim2 g (PX g) sIndex (fun x y H Q => ∃ a b i rest, x = .str a ∧ [y] = [V.str b] ∧ Builtin.Str.occurrences a b 0 a.length 1 = i :: rest ∧ Q (.int (i : Nat)) H) := by
  intro B F r f S σ H d e x y res Q s bx bY h q
  unfold sIndex at h
  split at h
  · rename_i u v
    cases ho : Builtin.Str.occurrences (toStr u) (toStr v) 0 u.length 1 with
    | nil => rw [ho] at h; cases h
    | cons i rest =>
      rw [ho] at h
      cases h
      exact ⟨_, _, i, rest, bx.str, by rw [bY.str], by rw [toStr_len]; exact ho, q F r H _ .refl s (px_val (.int _))⟩
  · cases h
/-- the receiver's kind -/
def kindIs (T : String) (S : Store) (d : D) : Bool := match d with
  | .str _ => decide (T = "str")
  | d => decide (T = "list") && (lsqOf S d).isSome
def isT (T : String) (x : Nat ⊕ D) : M Unit := fun _ f S => match opR f x with
  | some d => if kindIs T S d = true then .ok () f S else .bad
  | none => .bad
def mMeth1 {α : Type} (T : String) (h : Store → D → D → Option α) (a b : Op) : M α := mBind (opE a) fun x => mBind (isT T x) fun _ => mBind (opE b) fun y => at2 h x y
def mMeth0 {α : Type} (T : String) (h : Store → D → Option α) (a : Op) : M α := mBind (opE a) fun x => mBind (isT T x) fun _ => at1 h x
variable {B : Bs} {F F' H H' : Hp} {r r' : List Addr} {σ : L2.St} {f : Fr} {S : Store}
theorem isT_then {α β : Type} {T : String} {P : Bs → Hp → List Addr → Fr → L2.St → Hp → α → β → Prop} {x : Nat ⊕ D} {v : V} {k : Unit → M α} {Q : β → Hp → Prop} (s : SR g B F r f S σ H) (px : PO1 g F r σ x v) (h : Run g W P B F r σ (mBind (isT T x) k g.cx f S) Q) :
    tyV g.K T v H ∧ Run g W P B F r σ (k () g.cx f S) Q := by
  replace h : Run g W P B F r σ ((match opR f x with
    | some d => if kindIs T S d = true then .ok () f S else .bad
    | none => .bad : R Unit).bind fun u f S => k u g.cx f S) Q := h
  cases e : opR f x with
  | none => rw [e] at h; exact h.elim
  | some d =>
    rw [e] at h
    dsimp only at h
    split at h
    · rename_i hk
      refine ⟨?_, h⟩
      have bv := s.opR px e
      have lst : (decide (T = "list") && (lsqOf S d).isSome) = true → tyV g.K T v H := fun z => by
        rw [Bool.and_eq_true] at z
        cases e2 : lsqOf S d with
        | none => rw [e2] at z; cases z.2
        | some ds =>
          obtain ⟨a, vs, rfl, h1, _⟩ := bv.lsqOf s.e1 e2
          exact .inl ⟨of_decide_eq_true z.1, vs, h1⟩
      cases d with
      | str z =>
        rw [bv.str]
        show T = "str"
        exact of_decide_eq_true (show decide (T = "str") = true from hk)
      | _ => exact lst hk
    · exact h.elim
theorem snd_m1 (c : Good X W g q) {α : Type} {P : Bs → Hp → List Addr → Fr → L2.St → Hp → α → V → Prop} {T id : String} {name : Str} {rr : V → List V → Hp → VK → Prop} {h : Store → D → D → Option α} {o e : Expr} {oo oe : Op} {apos cpos : Pos} (pa : PlainAttrs T) (slot : Slot T name id) (hty : typeOf (.builtin id) = pure (.type "method_descriptor")) (hm : MtR X id rr)
    (hp : Prim2 g P h (fun x y H Q => rr x [y] H Q)) (ho : PE X o (tOp1 g W oo)) (he : PE X e (tOp1 g W oe)) (hb : attributeBase o name X.env (eval o X.env) = eval o X.env) (hline : (apos.endLine == cpos.line) = true)
    (hs : starEach [e] X.env = (false, eval e X.env) :: starEach [] X.env) : PE X (.Call (.Attribute o name apos) [e] [] cpos) (tM g W P (mMeth1 T h oo oe)) :=
  PE.imp (pe_bm pa slot hty hm ho (pa_cons he pa_nil hs) hb (by rw [hs]; rfl) hline hs) fun σ H Q ⟨B, F, r, f, S, s, h⟩ => by
    rw [c.K]
    refine tOp1.mono (opE_then s h) fun v H1 ⟨x, F1, r1, f1, S1, l1, s1, px, q1⟩ => ?_
    obtain ⟨ht, q1⟩ := isT_then s1 px q1
    refine ⟨ht, ?_⟩
    refine tOp1.mono (opE_then s1 q1) fun w H2 ⟨y, F2, r2, f2, S2, l2, s2, py, q2⟩ => ?_
    exact at2_run hp s2 (px.le l2) py q2
theorem snd_sindex (c : Good X W g q) {o e : Expr} {oo oe : Op} {apos cpos : Pos} (ho : PE X o (tOp1 g W oo)) (he : PE X e (tOp1 g W oe)) (hb : attributeBase o "index" X.env (eval o X.env) = eval o X.env := by rfl) (hline : (apos.endLine == cpos.line) = true := by rfl)
    (hs : starEach [e] X.env = (false, eval e X.env) :: starEach [] X.env := by rfl) : PE X (.Call (.Attribute o "index" apos) [e] [] cpos) (tX g W (mMeth1 "str" sIndex oo oe)) :=
  snd_m1 c F.plainAttrs_str F.slot_str_index F.type_str_index mt_sindex prim_sindex ho he hb hline hs
end
end Mi
set_option Elab.async false
set_option linter.all false
set_option maxRecDepth 100000
/-! Mi, part 23: calls with keywords. -/
namespace Mi
open PySem PySem.Spec L2
/-- how such a call binds -/
def KB (K : PySem.W.Frag) (fd : FuncData) (ps ks : List Str) (n : Nat) (perm : List Nat) : Prop := ∀ (s : Shared) (us ws : List Value), K.In s.heap → us.length = n → ws.length = ks.length → BindsTo s fd ⟨us, ks.zip ws⟩ (ps.zip (pm perm (us ++ ws)))
section
variable {X : Cx} {g : G} {W : WX} {q : Qc} {B : Bs} {F F' H H' : Hp} {r r' : List Addr} {σ : L2.St} {f : Fr} {S S' : Store} {E : Ends}
theorem pm_vals {perm : List Nat} {xs : List V} {us : List Value} (h : Vals xs us) : Vals (pm perm xs) (pm perm us) := by
  induction perm with
  | nil => exact .nil
  | cons j perm ih =>
    unfold pm
    rw [List.filterMap_cons, List.filterMap_cons]
    cases e : xs[j]? with
    | none => rw [h.none_of e]; exact ih
    | some x =>
      obtain ⟨u, e1, ru⟩ := h.get e
      rw [e1]
      exact .cons ru ih
theorem pm_rep {perm : List Nat} {ds : List D} {vs : List V} (h : RepL g.K F r ds vs) : RepL g.K F r (pm perm ds) (pm perm vs) := by
  induction perm with
  | nil => exact .nil
  | cons j perm ih =>
    unfold pm
    rw [List.filterMap_cons, List.filterMap_cons]
    cases e : ds[j]? with
    | none =>
      have e2 : vs[j]? = none := by
        rw [List.getElem?_eq_none_iff] at e ⊢
        rw [← h.length]; exact e
      rw [e2]; exact ih
    | some d =>
      obtain ⟨v, e1, rv⟩ := h.get e
      rw [e1]
      exact .cons rv ih
theorem pm_len {α : Type} {perm : List Nat} {xs : List α} (h : ∀ j ∈ perm, j < xs.length) : (pm perm xs).length = perm.length := by
  induction perm with
  | nil => rfl
  | cons j perm ih =>
    unfold pm
    rw [List.filterMap_cons, List.getElem?_eq_getElem (h j List.mem_cons_self)]
    rw [List.length_cons, List.length_cons]
    exact congrArg _ (ih fun k hk => h k (List.mem_cons_of_mem _ hk))
theorem run_kw {fi : FnI} {i n : Nat} {ks : List Str} {perm : List Nat} {pins : List (Addr × Obj)} {H : Hp} {s : Shared} {Q : VK} {us ws : List Value} {vs zs : List V} (c : Good X W g q) (ht : g.tab i = some fi) (hb : KB X.K fi.fd fi.ps ks n perm) (hn : vs.length = n) (hz : zs.length = ks.length)
    (I : Inv X pins σ H s) (r : Vals vs us) (rz : Vals zs ws) (h : spM g fi.ps.length i (pm perm (vs ++ zs)) H Q (WE W σ)) : wpAny (model X.prog X.w) X.A (call (.ref fi.f) us (ks.zip ws)) (EP X pins σ Q) X.xe s := by
  obtain ⟨F, hm, hk, _⟩ := c.cl i fi ht
  have r2 : Vals (pm perm (vs ++ zs)) (pm perm (us ++ ws)) := pm_vals (r.append rz)
  refine wpAny_call (codeAny_mono (F.go X.A X.stack s H ⟨us, ks.zip ws⟩ (pm perm (us ++ ws)) (pm perm (vs ++ zs)) Q (WE W σ) c.gd c.rm I.env0 (hb s us ws I.kIn (by rw [← r.length]; exact hn) (by rw [← rz.length]; exact hz)) r2 h) fun r s' hq => ?_)
  cases r with
  | error e => exact passAt c.tk σ pins H s e s' I hq
  | ok fl =>
    cases fl with
    | ret u => exact I.after hq
    | next => exact False.elim hq
    | brk => exact False.elim hq
    | cont => exact False.elim hq
inductive PKs (X : Cx) (g : G) (W : WX) : List Keyword → List (M D) → Prop
  | nil : PKs X g W [] []
  | cons {nm : Option Str} {e : Expr} {kpos : Pos} {kws : List Keyword} {m : M D} {ms : List (M D)} : PE X e (tE g W m) → PKs X g W kws ms → PKs X g W (⟨nm, e, kpos⟩ :: kws) (m :: ms)
theorem PKs.pk {kws : List Keyword} {ms : List (M D)} (h : PKs X g W kws ms) : PK X kws (tAlls g W ms) := by
  induction h with
  | nil => exact pk_nil
  | cons h1 h2 ih => exact pk_cons h1 ih
theorem mCallK_run {i n : Nat} {perm : List Nat} {ms ks : List (M D)} {Q : VK} (hl : perm.length = n) (hp : ∀ j ∈ perm, j < ms.length + ks.length) (h : tX g W (mCallK i perm ms ks) σ H Q) : tAlls g W ms σ H fun vs H1 => tAlls g W ks σ H1 fun zs H2 => vs.length = ms.length ∧ zs.length = ks.length ∧ spM g n i (pm perm (vs ++ zs)) H2 Q (WE W σ) := by
  obtain ⟨B, F, r, f, S, s, h⟩ := h
  refine tAlls_mono (tAlls_len (mAll_run s (Run.bind (P := PLs g) h))) fun vs H1 ⟨hv, ds, F1, r1, f1, S1, l1, s1, p1, q1⟩ => ?_
  replace q1 : Run g W (PX g) B F1 r1 σ ((mAll ks g.cx f1 S1).bind fun es f S => ((fun es (C : Ctx) f S => (C.call i ((pm perm (ds ++ es)).map .val) C.lam S).thenR f : List D → M DX) es) g.cx f S) Q := q1
  refine tAlls_mono (tAlls_len (mAll_run s1 (Run.bind (P := PLs g) (k := (fun es (C : Ctx) f S => (C.call i ((pm perm (ds ++ es)).map .val) C.lam S).thenR f : List D → M DX)) q1))) fun zs H2 ⟨hz, es, F2, r2, f2, S2, l2, s2, p2, q2⟩ => ?_
  have rp : RepL g.K F2 r2 (pm perm (ds ++ es)) (pm perm (vs ++ zs)) := pm_rep (RepL.append (RepL.le l2 p1) p2)
  exact ⟨hv, hz, by rw [pm_len (by rw [List.length_append, hv, hz]; exact hp), hl], F2, r2, S2, _, g.lamf, s2.e1, rp, Run.call s2 q2⟩
theorem snd_callK0 (c : Good X W g q) {i : Nat} {fi : FnI} {ks : List Str} {perm : List Nat} {kws : List Keyword} {mk : List (M D)} {p pos : Pos} (ht : g.tab i = some fi) (hg : GlQ q fi.name) (hb : KB X.K fi.fd fi.ps ks 0 perm) (hl : perm.length = fi.ps.length) (hp : ∀ j ∈ perm, j < 0 + mk.length) (hkl : mk.length = ks.length) (hkw : PKs X g W kws mk)
    (hall : (backToKw pos (keywordEach kws X.env)).all (·.1.isSome) = true := by rfl) (hks : (backToKw pos (keywordEach kws X.env)).filterMap (·.1) = ks := by rfl)
    (hdb : (fi.name == ("__debug__" : Str)) = false := by decide) (hpl : ((backTo pos (starEach [] X.env)).any (·.1) || (backToKw pos (keywordEach kws X.env)).any (·.1.isNone)) = false := by rfl) :
    PE X (.Call (.Name fi.name p) [] kws pos) (tX g W (mCallK i perm [] mk)) := by
  obtain ⟨F, hm, hk, _⟩ := c.cl i fi ht
  refine ⟨fun pins s σ H Q I h => ?_⟩
  refine wpAny_Call_Name_kw (ld_glob I (by unfold Gl Env.kindOf; rw [c.sc]; exact hg) hm ?_ hdb)
  have h1 : tAlls g W mk σ H fun zs H2 => ([] : List V).length = 0 ∧ zs.length = mk.length ∧ spM g fi.ps.length i (pm perm ([] ++ zs)) H2 Q (WE W σ) := mCallK_run (ms := []) hl hp h
  refine PySem.W.callWith_KW0 (h₀ := X.base) I.ok.mod.kin hk hall (thn (hkw.pk.run pos pins s σ H _ I h1) fun ws s2 ⟨zs, H2, I2, rz, _, hz, q2⟩ => ⟨I2.kIn, ?_⟩) hpl
  rw [hks]
  exact run_kw c ht hb (vs := []) rfl (by rw [hz, hkl]) I2 .nil rz q2
theorem snd_callK (c : Good X W g q) {i : Nat} {fi : FnI} {ks : List Str} {perm : List Nat} {e : Expr} {es : List Expr} {ms : List (M D)} {kws : List Keyword} {mk : List (M D)} {p pos : Pos} (ht : g.tab i = some fi) (hg : GlQ q fi.name) (hb : KB X.K fi.fd fi.ps ks ms.length perm) (hl : perm.length = fi.ps.length) (hp : ∀ j ∈ perm, j < ms.length + mk.length) (hkl : mk.length = ks.length) (ha : PA X (e :: es) (tAlls g W ms)) (hkw : PKs X g W kws mk)
    (hall : (backToKw pos (keywordEach kws X.env)).all (·.1.isSome) = true := by rfl) (hks : (backToKw pos (keywordEach kws X.env)).filterMap (·.1) = ks := by rfl)
    (hdb : (fi.name == ("__debug__" : Str)) = false := by decide) (he : starEach (e :: es) X.env = (false, eval e X.env) :: starEach es X.env := by rfl) (hpl : ((backTo pos (starEach (e :: es) X.env)).any (·.1) || (backToKw pos (keywordEach kws X.env)).any (·.1.isNone)) = false := by rfl) :
    PE X (.Call (.Name fi.name p) (e :: es) kws pos) (tX g W (mCallK i perm ms mk)) := by
  obtain ⟨F, hm, hk, _⟩ := c.cl i fi ht
  refine ⟨fun pins s σ H Q I h => ?_⟩
  refine wpAny_Call_Name_kw (ld_glob I (by unfold Gl Env.kindOf; rw [c.sc]; exact hg) hm ?_ hdb)
  refine PySem.W.callWith_KW (h₀ := X.base) I.ok.mod.kin hk hall (thn (ha.run pos pins s σ H _ I (mCallK_run hl hp h)) fun us s1 ⟨vs, H1, I1, r1, q1⟩ => ?_) hpl he
  refine thn (hkw.pk.run pos pins s1 σ H1 _ I1 q1) fun ws s2 ⟨zs, H2, I2, rz, hv, hz, q2⟩ => ⟨I2.kIn, ?_⟩
  rw [hks]
  exact run_kw c ht hb hv (by rw [hz, hkl]) I2 r1 rz q2
end
end Mi
set_option Elab.async false
set_option linter.all false
set_option maxRecDepth 100000
set_option maxHeartbeats 2000000
/-! Mi, part 24: a lambda handed to a def. -/
namespace Mi
open PySem PySem.Spec PyProof.Rows L2 LamX
section
variable {X : Cx} {pins : List (Addr × Obj)} {σ : L2.St} {H : Hp} {s : Shared}
/-- the lambda called in the def that got it; what it raises is wished for at that def's slots -/
theorem act_pe {CXg : CXT} {Eg : XK} {Ng : List Str} {qg : Str} {sg : Scope} {g f c' : Addr} {cdg pm ctv : Value} {params : Arguments} {body : Expr} {scope : Scope} {k i : Nat} {a : Str} {pn : List (Addr × Obj)} {xe : Value → Shared → Prop} {W : WX} {tb : XK → TE} {p1 p2 : Pos}
    (I : Inv X pins σ H s) (L : LamS X.env.scope scope) (hf : s.heap.get? f = some (PySem.W.kla_obj "<lambda>" (X.env.qual ++ "<lambda>") params body scope (cloFrom X.env.cells scope.names []) pm c' ctv)) (hfn : H f = none) (hfr : f ∉ frs X.stack)
    (hbind : bindArgs (PySem.W.kla_fn "<lambda>" (X.env.qual ++ "<lambda>") params body scope (cloFrom X.env.cells scope.names []) pm (.ref c') ctv) ⟨[], []⟩ = pure [])
    (tk : Takes ((cxOf CXg X.prog X.w X.K X.mg X.base Ng qg sg g cdg X.A X.stack s H Eg).tr pn xe) W) (hr : Room (k + 1) (X.A.deeper (PyProof.Rows.envOfC qg sg s.heap.objs.size g cdg)))
    (hgd : X.A.guards = some []) (hbody : ∀ (E : XK) (A : Around) (outer : List Env) (s : Shared) (H : Hp), A.guards = some [] → Room k (A.deeper (lamEnv X scope s.heap.objs.size f c')) → PE (lamCx X A outer s H E scope f c') body (tb E))
    (hN : Ng[i]? = some a) (hv : Vis sg a) (hd : (a == ("__debug__" : Str)) = false) (hcd : (a == ("__classdict__" : Str)) = false) :
    PE ((cxOf CXg X.prog X.w X.K X.mg X.base Ng qg sg g cdg X.A X.stack s H Eg).tr pn xe) (.Call (.Name a p1) [] [] p2)
      (fun σZ HZ Q => σZ[i]? = some (some (.ref f)) ∧ HZ c' = some (CodeO c' (X.env.qual ++ "<lambda>")) ∧ tb (WE W σZ) σ HZ Q) := by
  refine ⟨fun pinsZ sZ σZ HZ Q IZ h => ?_⟩
  obtain ⟨hs, hc, ht⟩ := h
  refine wpAny_Call_Name_kw (thn ((pe_var (pos := p1) (i := i) hN hv hd hcd).run pinsZ sZ σZ HZ (fun v H1 => v = .ref f ∧ H1 = HZ) IZ ⟨.ref f, hs, rfl, rfl⟩) fun u s1 ⟨v, H1, I1, r1, q1⟩ => ?_)
  obtain ⟨ev, eH⟩ := q1
  subst ev
  rw [eH] at I1
  obtain rfl : u = Value.ref f := r1
  have of1 : s1.heap.get? f = some (PySem.W.kla_obj "<lambda>" (X.env.qual ++ "<lambda>") params body scope (cloFrom X.env.cells scope.names []) pm c' ctv) := I1.base.keep f _ hf hfn hfr (fun z => nomatch (show f ∈ ([] : List Addr) from z))
  refine PySem.W.callWith_F0 ⟨_, _, _, _, of1⟩ ?_
  have un : Un (frs X.stack) [] H HZ s.heap s1.heap := I1.base
  obtain ⟨⟨oc, vs, t, hoc, hdc, hvc⟩, _, _⟩ := I1.hok c' _ hc
  have rc : codeAny (model X.prog X.w) (X.A.deeper (PyProof.Rows.envOfC qg sg s.heap.objs.size g cdg)) (.call (.ref f) ⟨[], []⟩) (L2.CR (L2.CX X.prog X.w) (PyProof.Rows.envOfC qg sg s.heap.objs.size g cdg :: X.stack) X.prog X.w HZ s1 Q (WE W σZ)) s1 := by
    refine PySem.W.kla_callFunE hr.depth of1 rfl L.co L.gen rfl ⟨c', oc, vs, t, rfl, hoc, hdc, hvc⟩ ?_
    rw [hbind]
    refine wpAny_pure (wpAny_newFunctionEnv (fun y hy => (L.own y hy).2) (fun y hy => absurd hy (by simp)) (fun h₁ hns hsb => ⟨I1.nolimit.fresh _ hsb, ?_⟩) L.kind)
    show codeAny _ _ (.expr body (lamEnv X scope s1.heap.objs.size f c')) _ _
    have kp : ∀ b o, s1.heap.get? b = some o → h₁.get? b = some o := fun b o e => hsb.extBut b o (Nat.ne_of_lt (Heap.lt_size e)) (Heap.get?_push_of_some _ e)
    have J : Inv (lamCx X (X.A.deeper (PyProof.Rows.envOfC qg sg s.heap.objs.size g cdg)) (PyProof.Rows.envOfC qg sg s.heap.objs.size g cdg :: X.stack) s1 HZ (WE W σZ) scope f c') [] σ HZ { s1 with heap := h₁, toks := s1.toks + ([] : List (Str × Value)).length } :=
      lam_start2 I L I1.env0 hr.hd un hns kp
    refine PySem.W.kla_codeExpr (wpAny_mono ((hbody _ (X.A.deeper (PyProof.Rows.envOfC qg sg s.heap.objs.size g cdg)) _ s1 HZ hgd (hr.deeper _)).run [] _ _ HZ Q J ht) (fun v s' hq => ?_) fun e s' hq => hq)
    obtain ⟨w', H', J', rv, q⟩ := hq
    exact ⟨w', H', J'.os, J'.bare, J'.base, J'.hok, rv, q⟩
  refine wpAny_call (codeAny_mono rc fun r s' hq => ?_)
  cases r with
  | error e => exact passAt tk σZ pinsZ HZ s1 e s' I1 hq
  | ok fl =>
    cases fl with
    | ret u => exact I1.after hq
    | next => exact False.elim hq
    | brk => exact False.elim hq
    | cont => exact False.elim hq
/-- x(lambda: body): what x does with the lambda is told by its own body, whatever it lets out -/
theorem lam_pe {W : WX} {T : List (Addr × Str)} {x a : Str} {g c P : Addr} {k : Nat} {pg : Arguments} {bg : List Stmt} {sg : Scope} {dV kV doc pm cdv ct oc : Value} {an od : Option Addr} {osl : Array (Option Value)} {Ng : List Str}
    {params : Arguments} {body : Expr} {scope : Scope} {tb : XK → TE} {t : Addr → Addr → L2.St → Shared → Hp → XK → TS} {p lpos pos : Pos} (tk : Takes X W) (hg : Gl X x) (hm : X.mg x = some (.ref g)) (hk : PySem.W.keepIn X.K (.ref g) = true)
    (lk : X.K.lookup g = some ⟨oc, od, .func (PySem.W.fnOf x x pg bg sg dV kV doc pm an cdv ct), osl⟩) (hcg : PySem.W.codeIn X.K cdv x = true) (hb : L2.Binds X.K (PySem.W.fnOf x x pg bg sg dV kV doc pm an cdv ct) [a] []) (Sg : FnScope Ng [a] sg) (hNg : Ng[0]? = some a) (hva : Vis sg a)
    (TB : TabB X.base X.mg c P) (hcode : X.env.code = .ref c) (hmT : (P, X.env.qual ++ "<lambda>") ∈ T) (hu : ∀ p ∈ T, p.1 = P → p.2 = X.env.qual ++ "<lambda>") (hr : Room (k + 2) X.A) (L : LamS X.env.scope scope) (hdef : defaultsOf params X.env = ([], []))
    (hbind : ∀ (q : Str) (cl : List (Str × Addr)) (pm cv ctv : Value), bindArgs (PySem.W.kla_fn "<lambda>" q params body scope cl pm cv ctv) ⟨[], []⟩ = pure [])
    (hgd : X.A.guards = some []) (hbody : ∀ (E : XK) (A : Around) (outer : List Env) (s : Shared) (H : Hp) (f c' : Addr), A.guards = some [] → Room k (A.deeper (lamEnv X scope s.heap.objs.size f c')) → PE (lamCx X A outer s H E scope f c') body (tb E))
    (hG : ∀ (f c' : Addr) (σ : L2.St) (s : Shared) (H : Hp) (E : XK), Room (k + 1) (X.A.deeper (PyProof.Rows.envOfC x sg s.heap.objs.size g cdv)) →
      (∀ (W : WX) (pn : List (Addr × Obj)) (xe : Value → Shared → Prop) (p1 p2 : Pos), Takes ((cxOf (L2.CX X.prog X.w) X.prog X.w X.K X.mg X.base Ng x sg g cdv X.A X.stack s H E).tr pn xe) W →
        PE ((cxOf (L2.CX X.prog X.w) X.prog X.w X.K X.mg X.base Ng x sg g cdv X.A X.stack s H E).tr pn xe) (.Call (.Name a p1) [] [] p2) (fun σZ HZ Q => σZ[0]? = some (some (.ref f)) ∧ HZ c' = some (CodeO c' (X.env.qual ++ "<lambda>")) ∧ tb (WE W σZ) σ HZ Q)) →
      PSs (cxOf (L2.CX X.prog X.w) X.prog X.w X.K X.mg X.base Ng x sg g cdv X.A X.stack s H E) bg (t f c' σ s H E))
    (hdb : (x == ("__debug__" : Str)) = false) (hd : (a == ("__debug__" : Str)) = false) (hcd : (a == ("__classdict__" : Str)) = false) :
    PE X (.Call (.Name x p) [.Lambda params body scope lpos] [] pos) (fun σ H Q => Tabs T H ∧ ∀ H1, ExtN H H1 → Tabs T H1 → ∀ f c' s, H1 c' = some (CodeO c' (X.env.qual ++ "<lambda>")) → t f c' σ s H1 (WE W σ) { nx := fun _ H' => Q .non H', rt := Q } (L2.start Ng [.ref f]) H1) := by
  refine ⟨fun pins s σ H Q I h => ?_⟩
  obtain ⟨hT, h⟩ := h
  refine wpAny_Call_Name_kw (ld_glob I hg hm ?_ hdb)
  refine PySem.W.callWith_K (h₀ := X.base) I.ok.mod.kin hk ?_ (by rfl) (by rfl)
  show wpAny _ _ (spliced ((false, eval (.Lambda params body scope lpos) X.env) :: backTo pos (starEach [] X.env))) _ _ s
  refine Calls.spliced_cons (lam_make2 I TB hcode hmT hu hT hdef (L.has I.ok) fun f c' pm' ctv H1 s' I1 eN T1 hf hfn hfr hco => ?_)
  refine Calls.spliced_nil ⟨I1.kIn, ?_⟩
  have rc : codeAny (model X.prog X.w) X.A (.call (.ref g) ⟨[.ref f], []⟩) (L2.CR (L2.CX X.prog X.w) X.stack X.prog X.w H1 s' Q (WE W σ)) s' := by
    refine run_ofS (N := Ng) (ps := [a]) (us := [.ref f]) (vs := [.ref f]) lk hcg Sg hr I1.env0 (hb s' [.ref f] I1.kIn rfl) (.cons rfl .nil) rfl fun hr' => ?_
    exact ⟨_, hG f c' σ s' H1 (WE W σ) hr' (fun W pn xe p1 p2 tk => act_pe (i := 0) I1 L hf hfn hfr (hbind _ _ _ _ _) tk hr' hgd (fun E A outer s H hg2 hr2 => hbody E A outer s H f c' hg2 hr2) hNg hva hd hcd), h H1 eN T1 f c' s' hco⟩
  refine wpAny_call (codeAny_mono rc fun r s2 hq => ?_)
  cases r with
  | error e => exact passAt tk σ pins H1 s' e s2 I1 hq
  | ok fl =>
    cases fl with
    | ret u => exact I1.after hq
    | next => exact False.elim hq
    | brk => exact False.elim hq
    | cont => exact False.elim hq
end
end Mi
set_option Elab.async false
set_option linter.all false
set_option maxRecDepth 100000
set_option maxHeartbeats 2000000
/-! Mi, part 25: f(lambda: e). -/
namespace Mi
open PySem PySem.Spec L2 LamX
section
variable {X : Cx} {g : G} {W : WX} {q : Qc} {B : Bs} {F F' H H' : Hp} {r r' : List Addr} {σ : L2.St} {f : Fr} {S S' : Store} {E : Ends}
/-- all but the tables of code objects stays -/
theorem SR.extN (s : SR g B F r f S σ H) (ke : ExtN H H') (tb : Tabs g.T H') : SR g B F r f S σ H' := by
  have k1 : ∀ {b : Addr} {o : HO}, H b = some o → isTbl o = false → H' b = some o := fun {b o} h t => ke b o h fun ps z => by rw [z] at t; cases t
  have obr : ∀ {o : SO} {a : Addr}, ObR g.K F r H o a → ObR g.K F r H' o a := fun {o a} z => by
    cases o with
    | lst ds => obtain ⟨vs, z1, z2⟩ := z; exact ⟨vs, k1 z1 rfl, z2⟩
    | dct ds => obtain ⟨vs, z1, z2⟩ := z; exact ⟨vs, k1 z1 rfl, z2⟩
  have cor : ∀ {d : D} {a : Addr}, CoR g.K F r H d a → CoR g.K F r H' d a := fun {d a} z => by
    cases d with
    | lst ds => obtain ⟨vs, z1, z2⟩ := z; exact ⟨vs, k1 z1 rfl, z2⟩
    | dct ds => obtain ⟨vs, z1, z2⟩ := z; exact ⟨vs, k1 z1 rfl, z2⟩
    | _ => exact z
  refine ⟨⟨fun a w e => ?_, s.e1.fro, s.e1.len, fun i o a h1 h2 => obr (s.e1.sto i o a h1 h2), s.e1.rnd, s.e1.rF, tb, s.e1.tF, s.e1.tr⟩, s.len, fun k sl e => ?_, s.ow, s.od, ⟨s.bs.le, fun a h => ?_, fun a o h1 h2 h3 => ?_, s.bs.nF, s.bs.nr⟩, fun a o h => ?_, fun a o h => ?_⟩
  · rcases s.e1.hold a w e with z | ⟨kvs, o, z1, z2⟩
    · exact .inl (k1 z (s.e1.fro a w e).noT)
    · exact .inr ⟨kvs, o, z1, k1 z2 rfl⟩
  · have z := s.slot k sl e
    cases sl with
    | un => trivial
    | val d => exact z
    | own d => obtain ⟨b, z1, z2⟩ := z; exact ⟨b, z1, cor z2⟩
    | ex fs => obtain ⟨a', dd, vs, z1, z2, z3, z4⟩ := z; exact ⟨a', dd, vs, z1, z2, k1 z3 rfl, z4⟩
    | lam => obtain ⟨a, c, q, z1, z2, z3⟩ := z; exact ⟨a, c, q, z1, z2, k1 z3 rfl⟩
  · obtain ⟨o, e, t⟩ := s.bs.there a h
    exact ⟨o, k1 e t, t⟩
  · rcases s.bs.keep a o h1 h2 h3 with z | ⟨z1, ob, z2⟩
    · exact .inl (k1 z h2)
    · exact .inr ⟨z1, ob, k1 z2 rfl⟩
  · obtain ⟨h1, h2, h3⟩ := s.pin a o h
    exact ⟨k1 h1 h2, h2, h3⟩
  · obtain ⟨h1, ⟨ob, u, e⟩, h3⟩ := s.lck a o h
    exact ⟨k1 h1 (by rw [e]; rfl), ⟨ob, u, e⟩, h3⟩
end
end Mi
set_option Elab.async false
set_option linter.all false
set_option maxRecDepth 100000
set_option maxHeartbeats 2000000
/-! Mi, part 26: the states around a lambda. -/
namespace Mi
open PySem PySem.Spec L2 LamX
section
variable {X : Cx} {g g' : G} {W : WX} {q : Qc} {B B1 : Bs} {F F' F0 H H' H0 : Hp} {r r' r0 : List Addr} {σ σ' : L2.St} {f f1 : Fr} {S S' S1 : Store} {E : Ends}
theorem seen_own {k : Nat} {d : D} : (seen f)[k]? ≠ some (Sl.own d) := fun e => by
  unfold seen at e
  rw [List.getElem?_map] at e
  cases z : f[k]? with
  | none => rw [z] at e; cases e
  | some sl => rw [z] at e; cases sl <;> simp at e
theorem SR.seenL (s0 : SR g B1 F0 r0 f1 S1 σ H0) (e : E1 g' F r S H) (le : Le F0 r0 F r) (hK : g.K = g'.K) : SR g' ⟨F, r, strip H, [], fun _ => none, fun _ => none⟩ F r (seen f1) S σ H := by
  refine ⟨e, by unfold seen; rw [List.length_map]; exact s0.len, fun k sl h => ?_, fun k a ⟨⟨d, z⟩, _⟩ => absurd z seen_own, fun j k a ⟨⟨d, z⟩, _⟩ => absurd z seen_own, ⟨.refl, fun _ z => strip_ne z, fun _ _ z _ _ => .inl (strip_some z).1, fun _ z => .inl z, fun _ z => .inl z⟩, fun a o h => (by cases h), fun a o h => (by cases h)⟩
  unfold seen at h
  rw [List.getElem?_map] at h
  cases z : f1[k]? with
  | none => rw [z] at h; cases h
  | some sl0 =>
    rw [z] at h
    have y := s0.slot k sl0 z
    cases sl0 with
    | val d =>
      simp at h
      subst h
      obtain ⟨v, h1, h2⟩ := y
      exact ⟨v, h1, by rw [← hK]; exact h2.le le⟩
    | _ => simp at h; subst h; trivial
theorem SR.entryL {N : List Str} {fa c : Addr} {qn : Str} {lf : Store → CR} (e : E1 g F r S H) (hc : H c = some (CodeO c qn)) (hN : 1 ≤ N.length) : SR (g.met (fa, c, qn) lf F r) ⟨F, r, strip H, [], fun _ => none, fun _ => none⟩ F r (frame N.length [Sl.lam]) S (L2.start N [.ref fa]) H := by
  have noown : ∀ (k : Nat) (d : D), (frame N.length [Sl.lam])[k]? ≠ some (Sl.own d) := fun k d e => by
    have m := List.mem_of_getElem? e
    unfold frame at m
    rcases List.mem_append.mp m with m | m
    · simp at m
    · have := List.eq_of_mem_replicate m
      cases this
  refine ⟨e.cg rfl rfl, by rw [frame_len hN, start_len (vs := [.ref fa]) hN], fun k sl hk => ?_, fun k a ⟨⟨d, z⟩, _⟩ => absurd z (noown k d), fun j k a ⟨⟨d, z⟩, _⟩ => absurd z (noown j d), ⟨.refl, fun _ z => strip_ne z, fun _ _ z _ _ => .inl (strip_some z).1, fun _ z => .inl z, fun _ z => .inl z⟩, fun a o h => (by cases h), fun a o h => (by cases h)⟩
  unfold frame at hk
  by_cases hlt : k < 1
  · have : k = 0 := by omega
    subst this
    simp at hk
    subst hk
    exact ⟨fa, c, qn, ⟨rfl, .refl⟩, rfl, hc⟩
  · rw [List.getElem?_append_right (by simp; omega)] at hk
    have := List.eq_of_mem_replicate (List.mem_of_getElem? hk)
    subst this
    trivial
theorem RunC.toS {res : RS} {Q : VK} {EX : XK} (hK : g.K = g'.K) (hT : g.T = g'.T) (hc : g.cls = g'.cls) {B0 : Bs} (h : RunC g B0 res.toC Q EX) : RunS g' (fun cls d _ H => EX cls d H) B0 F r res { nx := fun _ H' => Q .non H', rt := Q } := by
  cases res with
  | nx f S => exact fun F' r' σ H' l s => h F' r' H' .non (s.e1.cg hK.symm hT.symm) s.bs (by unfold RXc; rw [if_neg (by decide)]; exact .non)
  | rt dd fr f S => exact fun F' r' σ H' v l s p => h F' r' H' v (s.e1.cg hK.symm hT.symm) s.bs (p.cg hK.symm)
  | exc c fs f S => exact fun F' r' σ H' dd vs l s h1 h2 => by rw [← hc]; exact h F' r' H' dd vs (s.e1.cg hK.symm hT.symm) s.bs h1 (by rw [hK]; exact h2)
  | bk f S => exact False.elim h
  | ct f S => exact False.elim h
  | bad => exact False.elim h
theorem RunC.toR {res : R DX} {Q : VK} {EX : XK} (hK : g.K = g'.K) (hT : g.T = g'.T) (hc : g.cls = g'.cls) {B0 : Bs} (h : RunC g B0 res.toCR Q EX) : Run g' (fun cls d _ H => EX cls d H) (PX g') B0 F r σ res Q := by
  cases res with
  | ok d f S => exact fun F' r' H' v l s p => h F' r' H' v (s.e1.cg hK.symm hT.symm) s.bs ((rx_c p).cg hK.symm)
  | exc c fs f S => exact fun F' r' H' dd vs l s h1 h2 => by rw [← hc]; exact h F' r' H' dd vs (s.e1.cg hK.symm hT.symm) s.bs h1 (by rw [hK]; exact h2)
  | bad => exact False.elim h
end
end Mi
set_option Elab.async false
set_option linter.all false
set_option maxRecDepth 100000
set_option maxHeartbeats 2000000
/-! Mi, part 27: f(lambda: e). -/
namespace Mi
open PySem PySem.Spec PyProof.Rows L2 LamX
section
variable {X : Cx} {g g' : G} {W : WX} {q : Qc} {B B1 : Bs} {F F' F0 H H' H0 : Hp} {r r' r0 : List Addr} {σ σ' : L2.St} {f f1 : Fr} {S S' S1 : Store} {E : Ends}
/-- the lambda is called: what its body does -/
theorem mLam_run {lm : Addr × Addr × Str} {lb : M DX} {W' : WX} {σZ : L2.St} {HZ : Hp} {Q : VK} {Fg : Hp} {rg : List Addr}
    (s0 : SR g B1 Fg rg f1 S1 σ H0) (h : tX (g.met lm (lamFn g.cx lb f1) Fg rg) W' mLam σZ HZ Q) :
    σZ[0]? = some (some (.ref lm.1)) ∧ HZ lm.2.1 = some (CodeO lm.2.1 lm.2.2) ∧ tX g.low (fun cls d _ H => WE W' σZ cls d H) lb σ HZ Q := by
  obtain ⟨B, F, r, f, S, s, h⟩ := h
  unfold mLam at h
  cases e : f[0]? with
  | none => rw [e] at h; exact False.elim h
  | some sl =>
    rw [e] at h
    cases sl with
    | lam =>
      obtain ⟨a, c, qn, ⟨z1, z2⟩, z3, z4⟩ := s.slot 0 _ e
      cases (Option.some.inj z1)
      have h2 : Run (g.met (a, c, qn) (lamFn g.cx lb f1) Fg rg) W' (PX _) B F r σZ ((lamFn g.cx lb f1 S).thenR f) Q := h
      have h3 := Run.call s h2
      refine ⟨z3, z4, ⟨_, F, r, seen f1, S, s0.seenL (g' := g.low) (s.e1.cg rfl rfl) z2 rfl, ?_⟩⟩
      exact RunC.toR (g := g.met (a, c, qn) (lamFn g.cx lb f1) Fg rg) (g' := g.low) rfl rfl rfl h3
    | _ => exact False.elim h
theorem snd_lamcall (c : Good X W g q) (fr : Frm X) {x a : Str} {gf cc P : Addr} {pg : Arguments} {bg : List Stmt} {sg : Scope} {dV kV doc pm cdv ct oc : Value} {an od : Option Addr} {osl : Array (Option Value)} {Ng : List Str}
    {params : Arguments} {body : Expr} {scope : Scope} {mb : MS} {lb : M DX} {p lpos pos : Pos} (hg : GlQ q x) (hm : X.mg x = some (.ref gf)) (hk : PySem.W.keepIn X.K (.ref gf) = true)
    (lk : X.K.lookup gf = some ⟨oc, od, .func (PySem.W.fnOf x x pg bg sg dV kV doc pm an cdv ct), osl⟩) (hcg : PySem.W.codeIn X.K cdv x = true) (hb : L2.Binds X.K (PySem.W.fnOf x x pg bg sg dV kV doc pm an cdv ct) [a] []) (Sg : FnScope Ng [a] sg) (hNg : Ng[0]? = some a) (hva : Vis sg a)
    (TB : TabB X.base X.mg cc P) (hcode : X.env.code = .ref cc) (hmT : (P, X.env.qual ++ "<lambda>") ∈ g.T) (hu : ∀ p ∈ g.T, p.1 = P → p.2 = X.env.qual ++ "<lambda>") (L : LamS q.sc scope) (hdef : defaultsOf params X.env = ([], []))
    (hbind : ∀ (q : Str) (cl : List (Str × Addr)) (pm cv ctv : Value), bindArgs (PySem.W.kla_fn "<lambda>" q params body scope cl pm cv ctv) ⟨[], []⟩ = pure [])
    (hbody : ∀ X' W', Good X' W' g.low ⟨scope, q.N, fun _ => false⟩ → PE X' body (tX g.low W' lb))
    (hmet : ∀ (X0 : Cx) (W0 : WX) lm lf Fg rg, Good X0 W0 (g.met lm lf Fg rg) ⟨sg, Ng, fun _ => true⟩ → Frm X0 →
      (∀ (pn : List (Addr × Obj)) (xe : Value → Shared → Prop) (W' : WX) (p1 p2 : Pos), Takes (X0.tr pn xe) W' → PE (X0.tr pn xe) (.Call (.Name a p1) [] [] p2) (tX (g.met lm lf Fg rg) W' mLam)) → PSs X0 bg (tS (g.met lm lf Fg rg) W0 mb))
    (hdb : (x == ("__debug__" : Str)) = false := by decide) (hd : (a == ("__debug__" : Str)) = false := by decide) (hcd : (a == ("__classdict__" : Str)) = false := by decide) :
    PE X (.Call (.Name x p) [.Lambda params body scope lpos] [] pos) (tX g W (mLamCall Ng.length mb lb)) := by
  by_cases h2 : 2 ≤ g.dep
  · have hlv := c.lvd h2
    have hN1 : 1 ≤ Ng.length := by
      obtain ⟨hlt, _⟩ := List.getElem?_eq_some_iff.mp hNg
      omega
    have base := lam_pe (X := X) (W := W) (T := g.T) (k := g.dep) (tb := fun E => tX g.low (fun cls d _ H => E cls d H) lb)
      (t := fun f c' σ s H E D σZ HZ => ∃ lf Fg rg, (∃ B1 f1 S1 H1, SR g B1 Fg rg f1 S1 σ H1 ∧ lf = lamFn g.cx lb f1) ∧ tS (g.met (f, c', X.env.qual ++ "<lambda>") lf Fg rg) (fun cls d _ H => E cls d H) mb D σZ HZ)
      (p := p) (lpos := lpos) (pos := pos) c.tk (by unfold Gl Env.kindOf; rw [c.sc]; exact hg) hm hk lk hcg hb Sg hNg hva TB hcode hmT hu (by rw [← hlv]; exact c.rm) (by rw [c.sc]; exact L) hdef hbind
      c.gd (fun E A outer s H f c' hgd hr => hbody _ _ {
        K := c.K
        mg := c.mg
        tk := takes_of rfl rfl rfl rfl
        calm := rfl
        N := c.N
        sc := rfl
        fn := rfl
        un := by
          have := hr.un
          show (A.deeper _).units + 65 < cLine
          omega
        gd := hgd
        rm := hr
        lv2 := h2
        lvd := fun h => absurd h (by show ¬ 2 ≤ 0; omega)
        lw := fun h => absurd h (by show ¬ 2 ≤ 0; omega)
        rs := c.rs
        em := c.em
        cl := fun i fi ht => ⟨c.lw h2 i fi ht, (c.cl i fi ht).2⟩
        pass := passes_of rfl })
      (fun f c' σ s H E hr hlam => ⟨fun pins s' σ' H' D I h => by
        obtain ⟨lf, Fg, rg, ⟨B1, f1, S1, H1, s0, e⟩, h⟩ := h
        subst e
        refine (hmet _ _ (f, c', X.env.qual ++ "<lambda>") (lamFn g.cx lb f1) Fg rg ?_ ⟨rfl, rfl⟩ ?_).run pins s' σ' H' D I h
        · exact {
            K := c.K
            mg := c.mg
            tk := takes_of rfl rfl rfl rfl
            calm := rfl
            N := rfl
            sc := rfl
            fn := rfl
            un := by
              have := hr.un
              show (X.A.deeper _).units + 65 < cLine
              omega
            gd := c.gd
            rm := hr
            lv2 := by show 2 ≤ g.dep + 1; omega
            lvd := fun h => absurd h (by show ¬ 2 ≤ 0; omega)
            lw := fun h => absurd h (by show ¬ 2 ≤ 0; omega)
            rs := c.rs
            em := c.em
            cl := fun i fi ht => ⟨⟨fun vs H Q E h => h.1, fun A outer s H args us vs Q E _ _ _ _ _ h => by
              obtain ⟨_, F, r, S, ds, lam, _, _, h⟩ := h
              exact (show False from h).elim⟩, (c.cl i fi ht).2⟩
            pass := passes_of rfl }
        · exact fun pn xe W' p1 p2 tk => PE.imp (hlam W' pn xe p1 p2 tk) fun σZ HZ Q h => mLam_run s0 h⟩)
      hdb hd hcd
    refine PE.imp base fun σ H Q ⟨B, F, r, f, S, s, h⟩ => ⟨s.e1.tabs, fun H1 eN T1 fa c' s' hco => ?_⟩
    have s1 := s.extN eN T1
    unfold mLamCall at h
    have nd : ¬ g.cx.dep < 2 := by show ¬ g.dep < 2; omega
    rw [if_neg nd] at h
    have h3 := Run.call s1 h
    exact ⟨lamFn g.cx lb f, F, r, ⟨B, f, S, H1, s1, rfl⟩, tS.of (SR.entryL s1.e1 hco hN1) (RunC.toS (g := g) (g' := g.met _ _ F r) rfl rfl rfl h3)⟩
  · exact ⟨fun pins s σ H Q I ⟨B, F, r, f, S, sr, h⟩ => by
      unfold mLamCall at h
      have nd : g.cx.dep < 2 := by show g.dep < 2; omega
      rw [if_pos nd] at h
      exact False.elim h⟩
end
end Mi
set_option Elab.async false
set_option linter.all false
set_option maxRecDepth 100000
/-! Mi: a < b < c as a value. -/
namespace Mi
open PySem PySem.Spec L2
section
variable {g : G} {W : WX} {B : Bs} {F F' H H' : Hp} {r r' : List Addr} {σ : L2.St} {f : Fr} {S : Store}
theorem PrimC.pb {h : Store → D → D → Option Bool} {rr : R2} (p : PrimC g h rr) : Prim2 (α := Bool) (β := Bool) g PB h (fun x y H Q => ∀ Q2 : VK, (∀ b H, Q b H → Q2 (.bl b) H) → rr x y H Q2) := by
  intro B F r f S σ H d e x y res Q s bx bY hh q Q2 hq
  exact p B F r f S σ H d e x y res _ s bx bY hh (hq _ _ (q F r H res .refl s rfl))
theorem snd_chain {X : Cx} {op op' : CmpOp} {h h' : Store → D → D → Option Bool} {a b c : Expr} {oa ob oc : Op} {pos : Pos} (k : CmpOk g X op h) (k' : CmpOk g X op' h') (ns : noSet c = true) (ha : PE X a (tOp1 g W oa)) (hb : PE X b (tOp1 g W ob)) (hc : PE X c (tOp1 g W oc)) :
    PE X (.Compare a [op, op'] [b, c] pos) (tE g W (mBl (mChain h h' oa ob oc))) := by
  obtain ⟨rr, h1, h2⟩ := k
  obtain ⟨rr', h1', h2'⟩ := k'
  refine PE.imp (pe_chain h1 h1' ha hb hc (noMark ns op')) fun σ H Q q => ?_
  obtain ⟨B, F, r, f, S, s, q⟩ := mBl_run q
  refine tOp1.mono (opE_then s q) fun v H1 ⟨x, F1, r1, f1, S1, l1, s1, px, q1⟩ => ?_
  refine tOp1.mono (opE_then s1 q1) fun w H2 ⟨y, F2, r2, f2, S2, l2, s2, py, q2⟩ => ?_
  refine at2C h2 s2 (px.le l2) py q2 fun kk q3 => ⟨kk, rfl, ?_⟩
  cases kk with
  | false => exact Run.ok (P := PB) (a := false) q3 s2 rfl
  | true =>
    refine tOp1.mono (opE_then s2 q3) fun w' H4 ⟨z', F4, r4, f4, S4, l4, s4, pz, q4⟩ => ?_
    exact at2_run h2'.pb s4 (py.le l4) pz q4 Q fun _ _ z => z
end
end Mi
set_option Elab.async false
set_option linter.all false
set_option maxRecDepth 100000
/-! Mi, part 30: repr. -/
namespace Mi
open PySem PySem.Spec L2
/-! ### what is shown -/
def kyP : Ky → PyData
  | .i n => .int n
  | .s x => .str (toStr x)
mutual
def toR : D → Option PyData
  | .non => some .none
  | .bl b => some (.bool b)
  | .int i => some (.int i)
  | .str x => some (.str (toStr x))
  | .tup ds => (toRs ds).map .tuple
  | .lst ds => (toRs ds).map .list
  | .dct kvs => (toRk kvs).map .dict
  | .ref _ => none
  | .scr _ => none
def toRs : List D → Option (List PyData)
  | [] => some []
  | d :: ds => match toR d, toRs ds with
    | some p, some ps => some (p :: ps)
    | _, _ => none
def toRk : List (Ky × D) → Option (List (PyData × PyData))
  | [] => some []
  | (k, d) :: ds => match toR d, toRk ds with
    | some p, some ps => some ((kyP k, p) :: ps)
    | _, _ => none
end
def toRS (S : Store) (d : D) : Option PyData := match d with
  | .ref i => (match S[i]? with
    | some (.lst ds) => toR (.lst ds)
    | some (.dct kvs) => toR (.dct kvs)
    | none => none)
  | d => toR d
def isBox : PyData → Bool
  | .list _ => true
  | .tuple _ => true
  | .dict _ => true
  | _ => false
def bRepr (S : Store) (a : D) : Option DX := match toRS S a with
  | some p => if isBox p && p.showable && decide (p.depth ≤ 60) && decide (p.shown.length ≤ LIM) then some (.str p.shown.cps.toList, false) else none
  | none => none
/-! ### data as it stands -/
def keyP : Key → PyData
  | .inl n => .int n
  | .inr x => .str x
mutual
inductive Dr (K : PySem.W.Frag) (H : Hp) : V → PyData → Prop
  | non : Dr K H .non .none
  | bl (b : Bool) : Dr K H (.bl b) (.bool b)
  | int (i : Int) : Dr K H (.int i) (.int i)
  | str (x : Str) : Dr K H (.str x) (.str x)
  | lst {a : Addr} {xs : List V} {ds : List PyData} : SqL K H a xs → DrAll K H xs ds → Dr K H (.ref a) (.list ds)
  | tup {a : Addr} {xs : List V} {ds : List PyData} : SqT K H a xs → DrAll K H xs ds → Dr K H (.ref a) (.tuple ds)
  | dct {a : Addr} {xs : List (Key × V)} {ds : List (PyData × PyData)} : Rd H a (.dK xs) → DrKv K H xs ds → Dr K H (.ref a) (.dict ds)
inductive DrAll (K : PySem.W.Frag) (H : Hp) : List V → List PyData → Prop
  | nil : DrAll K H [] []
  | cons {v : V} {vs : List V} {d : PyData} {ds : List PyData} : Dr K H v d → DrAll K H vs ds → DrAll K H (v :: vs) (d :: ds)
inductive DrKv (K : PySem.W.Frag) (H : Hp) : List (Key × V) → List (PyData × PyData) → Prop
  | nil : DrKv K H [] []
  | cons {k : Key} {v : V} {vs : List (Key × V)} {d : PyData} {ds : List (PyData × PyData)} : Dr K H v d → DrKv K H vs ds → DrKv K H ((k, v) :: vs) ((keyP k, d) :: ds)
end
theorem keyP_ky (k : Ky) : keyP (kyK k) = kyP k := by cases k <;> rfl
section
variable {g : G} {W : WX} {B : Bs} {F F' H H' : Hp} {r r' : List Addr} {σ : L2.St} {f : Fr} {S : Store}
mutual
theorem RepV.dr (e : E1 g F r S H) : ∀ {d : D} {v : V} {p : PyData}, RepV g.K F r d v → toR d = some p → Dr g.K H v p
  | .non, _, _, .non, h => by cases h; exact .non
  | .bl b, _, _, .bl _, h => by cases h; exact .bl b
  | .int i, _, _, .int _, h => by cases h; exact .int i
  | .str x, _, _, .str _, h => by cases h; exact .str _
  | .tup ds, _, p, .tup h1 h2, h => by
    unfold toR at h
    cases q : toRs ds with
    | none => rw [q] at h; cases h
    | some ps =>
      rw [q] at h
      cases h
      exact .tup (e.tupl h1) (RepL.dr e h2 q)
  | .lst ds, _, p, .lst h1 h2, h => by
    unfold toR at h
    cases q : toRs ds with
    | none => rw [q] at h; cases h
    | some ps =>
      rw [q] at h
      cases h
      exact .lst (SqL.of (e.lst h1)) (RepL.dr e h2 q)
  | .dct ds, _, p, .dct h1 h2, h => by
    unfold toR at h
    cases q : toRk ds with
    | none => rw [q] at h; cases h
    | some ps =>
      rw [q] at h
      cases h
      refine .dct ?_ (RepK.dr e h2 q)
      rcases e.hold _ _ h1 with z | ⟨kvs, o, z1, z2⟩
      · exact .inl z
      · cases z1; exact .inr ⟨o, z2⟩
theorem RepL.dr (e : E1 g F r S H) : ∀ {ds : List D} {vs : List V} {ps : List PyData}, RepL g.K F r ds vs → toRs ds = some ps → DrAll g.K H vs ps
  | [], _, _, .nil, h => by cases h; exact .nil
  | d :: ds, _, ps, .cons h1 h2, h => by
    unfold toRs at h
    split at h
    · rename_i p qs e1 e2
      cases h
      exact .cons (RepV.dr e h1 e1) (RepL.dr e h2 e2)
    · cases h
theorem RepK.dr (e : E1 g F r S H) : ∀ {ds : List (Ky × D)} {vs : List (Key × V)} {ps : List (PyData × PyData)}, RepK g.K F r ds vs → toRk ds = some ps → DrKv g.K H vs ps
  | [], _, _, .nil, h => by cases h; exact .nil
  | (k, d) :: ds, _, ps, .cons h1 h2, h => by
    unfold toRk at h
    split at h
    · rename_i p qs e1 e2
      cases h
      have z := DrKv.cons (k := kyK k) (RepV.dr e h1 e1) (RepK.dr e h2 e2)
      rw [keyP_ky] at z
      exact z
    · cases h
end
theorem BV.dr (s : SR g B F r f S σ H) {d : D} {v : V} {p : PyData} (h : BV g F r H d v) (hp : toRS S d = some p) : Dr g.K H v p := by
  have own : ∀ {ds : List D} {a : Addr} {q : PyData}, (∃ vs, H a = some (.lst vs) ∧ RepL g.K F r ds vs) → toR (.lst ds) = some q → Dr g.K H (.ref a) q := fun {ds a q} ⟨vs, h1, h2⟩ hq => by
    unfold toR at hq
    cases e : toRs ds with
    | none => rw [e] at hq; cases hq
    | some ps => rw [e] at hq; cases hq; exact .lst (SqL.of h1) (RepL.dr s.e1 h2 e)
  have ownK : ∀ {ds : List (Ky × D)} {a : Addr} {q : PyData}, (∃ vs, H a = some (.dK vs) ∧ RepK g.K F r ds vs) → toR (.dct ds) = some q → Dr g.K H (.ref a) q := fun {ds a q} ⟨vs, h1, h2⟩ hq => by
    unfold toR at hq
    cases e : toRk ds with
    | none => rw [e] at hq; cases hq
    | some ps => rw [e] at hq; cases hq; exact .dct (.inl h1) (RepK.dr s.e1 h2 e)
  rcases h with h | ⟨a, rfl, h⟩
  · cases d with
    | ref i =>
      unfold toRS at hp
      dsimp only at hp
      cases e : S[i]? with
      | none => rw [e] at hp; cases hp
      | some o =>
        rw [e] at hp
        cases h with
        | ref hr =>
          have z := s.e1.sto i o _ e hr
          cases o with
          | lst ds => exact own z hp
          | dct ds => exact ownK z hp
    | _ => exact RepV.dr s.e1 h (by unfold toRS at hp; exact hp)
  · cases d with
    | lst ds => exact own h hp
    | dct ds => exact ownK h hp
    | _ => exact h.elim
end
/-! ### read by the machine -/
/-- sys.modules is not to be touched -/
def SysK (K : PySem.W.Frag) : Prop := ∃ c d es n sl, K.lookup sysModules = some ⟨c, d, .dict es n, sl⟩
section
variable {X : Cx} {pins : List (Addr × Obj)} {σ : L2.St} {H : Hp} {s : Shared}
theorem sys_none (hs : SysK X.K) (I : Inv X pins σ H s) : H sysModules = none := by
  obtain ⟨c, d, es, n, sl, h⟩ := hs
  exact (I.bs _ _ (I.ok.mod.kin _ _ h)).2
theorem keysRead {prog : Program} {w : World} : ∀ {es : List DictEntry} {xs : List (Key × Value)} {kvs : List (Key × V)} {ds : List (PyData × PyData)}, PySem.Pairs (mixKind prog w) es xs → KV kvs xs → DrKv X.K H kvs ds → ReadsAll s.heap (es.map (·.key)) (ds.map (·.1)) []
  | [], _, _, _, .nil, .nil, .nil => .nil
  | e :: es, (k, u) :: xs, (k', v) :: kvs, _, .cons h1 h2 h3, .cons h4 h5, .cons h6 h7 => by
    have ek : k' = k := h4.1
    subst ek
    have r2 : ReadsAll s.heap _ _ [] := keysRead h3 h5 h7
    have h1' : keyIs k' e.key = true := h1
    rcases keyIs_shape h1' with ⟨i, t, e1, e2⟩ | ⟨x, t, e1, e2⟩
    · subst e1
      show ReadsAll s.heap (e.key :: es.map (·.key)) (.int i :: _) ([] ++ [])
      rw [e2]
      exact .cons (.int i t) r2
    · subst e1
      show ReadsAll s.heap (e.key :: es.map (·.key)) (.str x :: _) ([] ++ [])
      rw [e2]
      exact .cons (.str x t) r2
mutual
theorem Dr.reads (hs : SysK X.K) (I : Inv X pins σ H s) : ∀ (d : PyData) (v : V) (u : Value), Dr X.K H v d → RelV v u → ∃ as, Reads s.heap u d as ∧ sysModules ∉ as
  | .none, _, _, h, r => by
    cases h
    cases r
    exact ⟨_, Reads.none, by simp⟩
  | .bool b, _, _, h, r => by
    cases h
    cases r
    exact ⟨_, Reads.bool b, by simp⟩
  | .int i, _, _, h, r => by
    cases h
    obtain ⟨t, rfl⟩ := r
    exact ⟨_, Reads.int i t, by simp⟩
  | .str x, _, _, h, r => by
    cases h
    obtain ⟨t, rfl⟩ := r
    exact ⟨_, Reads.str x t, by simp⟩
  | .list ds, _, _, h, r => by
    cases h with
    | @lst a xs _ hl ha =>
      cases r
      obtain ⟨its, rv, ⟨o, n, ho, hc, _, hd⟩, _⟩ := I.list hl
      obtain ⟨as, hr, hn⟩ := Dr.readsAll hs I ds _ its ha rv
      refine ⟨_, Reads.list ho hc hd hr, fun hm => ?_⟩
      rcases List.mem_cons.mp hm with e | e
      · obtain ⟨c, d, es, n, sl, hk⟩ := hs
        have z := I.kIn _ _ hk
        rw [e, ho] at z
        cases z
        cases hd
      · exact hn e
  | .tuple ds, _, _, h, r => by
    cases h with
    | tup ht ha =>
      cases r
      obtain ⟨its, rv, ⟨o, ho, hc, n, hd⟩, _⟩ := I.tuple ht
      obtain ⟨as, hr, hn⟩ := Dr.readsAll hs I ds _ its ha rv
      exact ⟨_, Reads.tuple ho hc hd hr, hn⟩
  | .dict ds, _, _, h, r => by
    cases h with
    | @dct a xs _ hrd ha =>
      cases r
      obtain ⟨_, hsys, vs, rel, o, es, ep, ho, hx, hd, _, hp, _⟩ := dk_rd I.hok hrd
      have r1 : ReadsAll s.heap (es.toList.map (·.key)) (ds.map (·.1)) [] := keysRead hp rel ha
      obtain ⟨bs, r2, hn⟩ := Dr.readsKv hs I ds _ _ _ ha rel hp
      refine ⟨_, Reads.dict ho hx.1 hd r1 r2, fun hm => ?_⟩
      rcases List.mem_append.mp hm with e | e
      · rw [List.mem_singleton] at e
        rw [← e] at hsys
        simp at hsys
      · exact hn e
theorem Dr.readsAll (hs : SysK X.K) (I : Inv X pins σ H s) : ∀ (ds : List PyData) (vs : List V) (us : List Value), DrAll X.K H vs ds → Vals vs us → ∃ as, ReadsAll s.heap us ds as ∧ sysModules ∉ as
  | [], _, _, h, r => by
    cases h
    cases r
    exact ⟨_, ReadsAll.nil, by simp⟩
  | d :: ds, _, _, h, r => by
    cases h with
    | cons h1 h2 =>
      cases r with
      | cons r1 r2 =>
        obtain ⟨as, q1, n1⟩ := Dr.reads hs I d _ _ h1 r1
        obtain ⟨bs, q2, n2⟩ := Dr.readsAll hs I ds _ _ h2 r2
        exact ⟨_, ReadsAll.cons q1 q2, fun hm => (List.mem_append.mp hm).elim n1 n2⟩
theorem Dr.readsKv (hs : SysK X.K) (I : Inv X pins σ H s) : ∀ (ds : List (PyData × PyData)) (kvs : List (Key × V)) (xs : List (Key × Value)) (es : List DictEntry), DrKv X.K H kvs ds → KV kvs xs → PySem.Pairs (mixKind X.prog X.w) es xs → ∃ as, ReadsAll s.heap (es.map (·.val)) (ds.map (·.2)) as ∧ sysModules ∉ as
  | [], _, _, _, h, r, p => by
    cases h
    cases r
    cases p
    exact ⟨_, ReadsAll.nil, by simp⟩
  | (_, d) :: ds, _, _, _, h, r, p => by
    cases h with
    | cons h1 h2 =>
      cases r with
      | cons r1 r2 =>
        cases p with
        | @cons e _ es _ p1 p2 p3 =>
          obtain ⟨as, q1, n1⟩ := Dr.reads hs I d _ _ h1 r1.2
          obtain ⟨bs, q2, n2⟩ := Dr.readsKv hs I ds _ _ _ h2 r2 p3
          rw [← p2] at q1
          exact ⟨_, ReadsAll.cons q1 q2, fun hm => (List.mem_append.mp hm).elim n1 n2⟩
end
def rReprA (K : PySem.W.Frag) : List V → Hp → VK → Prop := fun xs H Q => ∃ a p, xs = [V.ref a] ∧ Dr K H (.ref a) p ∧ p.showable = true ∧ p.depth ≤ 60 ∧ p.shown.length ≤ sizeLine ∧ Q (.str p.shown) H
theorem call_reprA (hs : SysK X.K) (hg : X.A.guards = some []) (hu : X.A.units + 65 < cLine) : CallR X (.builtin "repr") (rReprA X.K) := by
  intro pins s σ H xs us Q I r h
  obtain ⟨a, p, rfl, hd, h1, h2, h3, q⟩ := h
  obtain ⟨u, rfl, ru⟩ := vals1 r
  obtain ⟨as, hr, hn⟩ := Dr.reads hs I p _ _ hd ru
  have ru' : u = Value.ref a := ru
  subst ru'
  exact repr_of_reads' hr h1 (fun _ => hn) hg (by omega) (fun _ _ e => e) (fun h' u tk hk => ⟨.str p.shown, H, I.kept hk, ⟨u, rfl⟩, q⟩) h3
variable {g : G} {W : WX} {q : Qc}
theorem prim_repr : Prim1 g (PX g) bRepr (fun x H Q => rReprA g.K [x] H Q) := by
  intro B F r f S σ H d x res Q s bx h q
  unfold bRepr at h
  cases e : toRS S d with
  | none => rw [e] at h; cases h
  | some p =>
    rw [e] at h
    dsimp only at h
    split at h
    · rename_i hc
      simp only [Bool.and_eq_true, decide_eq_true_eq] at hc
      obtain ⟨⟨⟨h1, h2⟩, h3⟩, h4⟩ := hc
      cases h
      have hd := bx.dr s e
      have hx : ∃ a, x = .ref a := by
        cases hd with
        | lst _ _ => exact ⟨_, rfl⟩
        | tup _ _ => exact ⟨_, rfl⟩
        | dct _ _ => exact ⟨_, rfl⟩
        | _ => cases h1
      obtain ⟨a, rfl⟩ := hx
      refine ⟨a, p, rfl, hd, h2, h3, by rw [lim_eq]; exact h4, ?_⟩
      have z := q F r H _ .refl s (px_val (.str _))
      rw [toStr_mk] at z
      exact z
    · cases h
theorem snd_repr (hs : SysK g.K) (c : Good X W g q) {e : Expr} {oe : Op} {p pos : Pos} (hg : GlQ q "repr") (hm : g.mg "repr" = none) (he : PE X e (tOp1 g W oe)) (hst : starEach [e] X.env = [(false, eval e X.env)] := by rfl) : PE X (.Call (.Name "repr" p) [e] [] pos) (tX g W (mUn bRepr oe)) :=
  snd_f1 c (rr := rReprA g.K) (by rw [← c.K]; exact call_reprA (by rw [c.K]; exact hs) c.gd c.un) prim_repr hg hm rfl he (by decide) (by decide) hst
end
end Mi
set_option Elab.async false
set_option linter.all false
set_option maxRecDepth 100000
set_option maxHeartbeats 1000000
/-! Mi, part 31: from a def's promise to the law's call. -/
namespace Mi
open PySem PySem.Spec PyProof.Rows L2 LamX
/-- what is tracked when the law is called: the tables Ts, the script (if it is no part of K) -/
def begH (Ts : List Addr) (K : PySem.W.Frag) (a : Addr) (oa : Obj) (xs : List V) : Hp := fun b =>
  if b ∈ Ts then some (.tbl #[]) else if b = a ∧ K.lookup a = none then some (.frz oa (.lst xs)) else none
/-- no list, no table -/
def Calm (d : Data) : Prop := (∀ vs n, d ≠ .seq vs n) ∧ d ≠ .fields #[]
structure Scene (K : PySem.W.Frag) (s : Shared) (Ts : List Addr) (a : Addr) (oa : Obj) : Prop where
  inK : K.In s.heap
  tb : ∀ b ∈ Ts, s.heap.get? b = some { cls := .none, data := .fields #[] }
  nk : ∀ b ∈ Ts, K.lookup b = none
  ob : s.heap.get? a = some oa
  sq : ∃ vs n, oa.data = .seq vs n
section
variable {P : Program} {w : World} {K : PySem.W.Frag} {s : Shared} {Ts : List Addr} {a b : Addr} {oa o : Obj} {xs : List V}
theorem Scene.na (z : Scene K s Ts a oa) : a ∉ Ts := fun m => by
  obtain ⟨vs, n, e⟩ := z.sq
  have h := z.tb a m
  rw [z.ob] at h
  rw [Option.some.inj h] at e
  cases e
theorem begH_tb (h : b ∈ Ts) : begH Ts K a oa xs b = some (.tbl #[]) := by unfold begH; exact if_pos h
theorem begH_cases (b : Addr) : begH Ts K a oa xs b = none ∨ (b ∈ Ts ∧ begH Ts K a oa xs b = some (.tbl #[])) ∨ (b = a ∧ K.lookup a = none ∧ begH Ts K a oa xs b = some (.frz oa (.lst xs))) := by
  unfold begH
  by_cases h1 : b ∈ Ts
  · right; left; exact ⟨h1, if_pos h1⟩
  · rw [if_neg h1]
    by_cases h2 : b = a ∧ K.lookup a = none
    · right; right; exact ⟨h2.1, h2.2, if_pos h2⟩
    · left; exact if_neg h2
theorem Scene.calm (z : Scene K s Ts a oa) (h : s.heap.get? b = some o) (c : Calm o.data) : begH Ts K a oa xs b = none := by
  rcases begH_cases (Ts := Ts) (K := K) (a := a) (oa := oa) (xs := xs) b with q | ⟨q, _⟩ | ⟨q, _⟩
  · exact q
  · have e := z.tb b q
    rw [h] at e
    rw [Option.some.inj e] at c
    exact absurd rfl c.2
  · subst q
    obtain ⟨vs, n, e⟩ := z.sq
    have e2 := z.ob
    rw [h] at e2
    rw [Option.some.inj e2] at c
    exact absurd e (c.1 vs n)
theorem Scene.kept (z : Scene K s Ts a oa) (h : s.heap.get? b = some o) (c : Calm o.data) : (hidT s.heap (begH Ts K a oa xs)).get? b = some o := hidT_get h (z.calm h c)
theorem Scene.ns (z : Scene K s Ts a oa) {m : Str → Option Value} (h : s.heap.Ns b m) : (hidT s.heap (begH Ts K a oa xs)).Ns b m := by
  obtain ⟨o, es, n, h1, h2, h3⟩ := h
  exact ⟨o, es, n, z.kept h1 ⟨fun _ _ e => (by rw [h2] at e; cases e), fun e => (by rw [h2] at e; cases e)⟩, h2, h3⟩
theorem Scene.frag (z : Scene K s Ts a oa) : K.In (hidT s.heap (begH Ts K a oa xs)) := fun c u h => by
  refine hidT_get (z.inK c u h) ?_
  rcases begH_cases (Ts := Ts) (K := K) (a := a) (oa := oa) (xs := xs) c with q | ⟨q, _⟩ | ⟨q, q2, _⟩
  · exact q
  · rw [z.nk c q] at h; cases h
  · rw [q, q2] at h; cases h
theorem Scene.mod (z : Scene K s Ts a oa) {mg mb : Str → Option Value} (h1 : s.heap.Ns mainGlobals mg) (h2 : s.heap.Ns builtinsNs mb) (h3 : ∀ x : Str, x ≠ "__name__" → mb x = bootBuiltins x) (h4 : s.heap.NoLimit) : L2.Mod K mg (hidT s.heap (begH Ts K a oa xs)) := by
  obtain ⟨mc, h5, h6⟩ := h4
  exact ⟨z.frag, z.ns h1, ⟨mb, z.ns h2, h3⟩, ⟨mc, z.ns h5, h6⟩⟩
theorem Scene.tab (z : Scene K s Ts a oa) {mg : Str → Option Value} (h1 : s.heap.Ns mainGlobals mg)
    (hbm : ∃ (bm : Addr) (ob : Obj), mg "__builtins__" = some (.ref bm) ∧ bm ≠ builtinsNs ∧ s.heap.get? bm = some ob ∧ ob.cls = .type "module" ∧ ob.dict = some builtinsNs ∧ ob.data = .plain) {c T : Addr} (hT : T ∈ Ts) (hc : PySem.W.CodeHd s.heap c T) : TabB (hidT s.heap (begH Ts K a oa xs)) mg c T := by
  have ht := z.tb T hT
  obtain ⟨og, eg, ng, g1, g2, _⟩ := h1
  have gT : mainGlobals ≠ T := fun e => by
    rw [e, ht] at g1
    rw [← Option.some.inj g1] at g2
    cases g2
  refine ⟨?_, ?_, gT⟩
  · obtain ⟨o, us, f1, t1, f2, t2, b1, n1, t3, e1, e2, e3, e4, e5⟩ := hc
    refine ⟨o, us, f1, t1, f2, t2, b1, n1, t3, z.kept e1 ⟨fun _ _ e => (by rw [e3] at e; cases e), fun e => ?_⟩, e2, e3, e4, e5⟩
    rw [e3] at e
    rw [Data.fields.inj e] at e4
    simp at e4
  · obtain ⟨bm, ob, e1, e2, e3, e4, e5, e6⟩ := hbm
    have n1 : bm ≠ mainGlobals := fun e => by
      rw [e, g1] at e3
      rw [← Option.some.inj e3, g2] at e6
      cases e6
    have n2 : bm ≠ T := fun e => by
      rw [e, ht] at e3
      rw [← Option.some.inj e3] at e6
      cases e6
    exact ⟨bm, ob, e1, e2, n1, n2, z.kept e3 ⟨fun _ _ e => (by rw [e6] at e; cases e), fun e => (by rw [e6] at e; cases e)⟩, e4, e5, e6⟩
end
/-- the law's def, called with the script -/
theorem lawG {P : Program} {w : World} {K : PySem.W.Frag} {mg mb : Str → Option Value} {k : Nat} {a : Addr} {cs : List (Addr × Addr)} {fi : FnI} {sp : Sp} {s : Shared} {vs : List Value} {ns : List Int}
    (kx : K.In s.heap) (h1 : s.heap.Ns mainGlobals mg) (h2 : s.heap.Ns builtinsNs mb) (h3 : ∀ x : Str, x ≠ "__name__" → mb x = bootBuiltins x) (h4 : s.heap.NoLimit) (h5 : s.gens = #[])
    (t1 : ∀ p ∈ cs, s.heap.get? p.2 = some { cls := .none, data := .fields #[] }) (t2 : ∀ p ∈ cs, K.lookup p.2 = none) (t3 : ∀ p ∈ cs, PySem.W.CodeHd s.heap p.1 p.2)
    (hbm : ∃ (bm : Addr) (ob : Obj), mg "__builtins__" = some (.ref bm) ∧ bm ≠ builtinsNs ∧ s.heap.get? bm = some ob ∧ ob.cls = .type "module" ∧ ob.dict = some builtinsNs ∧ ob.data = .plain)
    (ha : s.heap.get? a = some { cls := .type "list", data := .seq vs.toArray }) (hi : IntsAre vs ns) (hl : ns.length ≤ sizeLine) (hr : Room k callerA)
    (hF : ∀ base : Heap, K.In base → base.Ns mainGlobals mg → (∀ p ∈ cs, TabB base mg p.1 p.2) → FnG P w K mg base k fi sp) (hbind : BindsTo s fi.fd ⟨[.ref a], []⟩ (fi.ps.zip [.ref a]))
    (hsp : ∀ H : Hp, (∀ p ∈ cs, H p.2 = some (.tbl #[])) → SqL K H a (ns.map V.int) → sp [.ref a] H (fun v _ => v = .bl true) fun _ _ _ => False) :
    codeAny (model P w) callerA (.call (.ref fi.f) ⟨[.ref a], []⟩) (fun r s' => r = .ok (.ret (.bool true)) ∧ OldK s.heap s'.heap ∧ s'.os = s.os ∧ AllBare s'.gens) s := by
  have rv := vals_ints hi
  have lv : vs.length = ns.length := hi.length
  have mem : ∀ {p : Addr × Addr}, p ∈ cs → p.2 ∈ cs.map (·.2) := fun {p} hp => List.mem_map_of_mem hp
  have z : Scene K s (cs.map (·.2)) a { cls := .type "list", data := .seq vs.toArray } := ⟨kx, fun b hb => by
      obtain ⟨p, hp, rfl⟩ := List.mem_map.mp hb
      exact t1 p hp, fun b hb => by
      obtain ⟨p, hp, rfl⟩ := List.mem_map.mp hb
      exact t2 p hp, ha, ⟨_, _, rfl⟩⟩
  obtain ⟨H, eH⟩ : ∃ H, H = begH (cs.map (·.2)) K a { cls := .type "list", data := .seq vs.toArray } (ns.map V.int) := ⟨_, rfl⟩
  have hc := begH_cases (Ts := cs.map (·.2)) (K := K) (a := a) (oa := { cls := .type "list", data := .seq vs.toArray }) (xs := ns.map V.int)
  rw [← eH] at hc
  have hS : SqL K H a (ns.map V.int) := by
    cases e : K.lookup a with
    | none =>
      refine .inl (.inr ⟨{ cls := .type "list", data := .seq vs.toArray }, ?_⟩)
      rw [eH]
      unfold begH
      rw [if_neg z.na, if_pos ⟨rfl, e⟩]
    | some o =>
      have e2 := kx a o e
      rw [ha] at e2
      rw [← Option.some.inj e2] at e
      exact .inr ⟨_, vs.toArray, _, e, rfl, rfl, rfl, by rw [List.size_toArray, lv]; exact hl, by rw [List.toList_toArray]; exact rv⟩
  have hok : HOk P w H s.heap := fun b u h => by
    rcases hc b with q | ⟨q1, q2⟩ | ⟨q1, _, q2⟩
    · rw [q] at h; cases h
    · rw [q2] at h; cases h; exact z.tb b q1
    · rw [q2] at h
      cases h
      subst q1
      exact ⟨ha, by rw [List.length_map]; exact hl, vs, _, rv, ha⟩
  have e0 : Env0 P w K mg (hidT s.heap H) callerA [] s H := by
    subst eH
    exact ⟨rfl, z.mod h1 h2 h3 h4, fun b o e => of_hidT e, (by rw [hidT_size]; exact Nat.le_refl _), trivial, fun b m => (nomatch m), hok, .of_eq h5⟩
  have F := hF (hidT s.heap H) (by subst eH; exact z.frag) (by subst eH; exact z.ns h1) (fun p hp => by subst eH; exact z.tab h1 hbm (mem hp) (t3 p hp))
  have run := F.go callerA [] s H ⟨[.ref a], []⟩ [.ref a] [.ref a] _ _ rfl hr e0 hbind (.cons rfl .nil) (hsp H (fun p hp => by rw [eH]; exact begH_tb (mem hp)) hS)
  refine codeAny_mono run fun r s' h => ?_
  match r, h with
  | .error e, h =>
    obtain ⟨_, _, _, _, _, _, _, _, _, _, _, _, h⟩ := h
    exact h.elim
  | .ok (.ret u), h =>
    obtain ⟨v, H', os, bare, un, hok', ru, ev⟩ := h
    have ev' : v = .bl true := ev
    subst ev'
    have eu : u = Value.bool true := ru
    subst eu
    refine ⟨rfl, ⟨fun b o e => ?_, fun b o e => ?_⟩, os, bare⟩
    · rcases hc b with q | ⟨q1, q2⟩ | ⟨q1, _, q2⟩
      · exact .inl (un.keep b o e q (fun m => nomatch m) (fun m => nomatch m))
      · obtain ⟨p, hp, rfl⟩ := List.mem_map.mp q1
        obtain ⟨more, em⟩ := un.tbls _ _ q2
        have em2 : s'.heap.get? p.2 = some { cls := .none, data := .fields (#[] ++ more) } := hok' _ _ em
        rw [t1 p hp] at e
        rw [← Option.some.inj e]
        exact .inr (.inl ⟨((t3 p hp).tab (t1 p hp)).isCodeTable, rfl, #[], more, rfl, em2⟩)
      · have e2 := (hok' b _ (un.frzs _ _ _ q2)).1
        have e3 := (hok b _ q2).1
        rw [e] at e3
        rw [Option.some.inj e3]
        exact .inl e2
    · obtain ⟨o', e'⟩ := un.there b o e (fun m => nomatch m)
      exact ⟨o', e'⟩
end Mi
set_option Elab.async false
set_option linter.all false
set_option maxRecDepth 100000
set_option maxHeartbeats 1000000
/-! Mi, part 32: what the head tells: defs, exceptions, constants, tables. -/
namespace Mi
open PySem PySem.Spec PyProof.Rows L2
/-- an own exception class: its name, its __init__ (name, text), its parameters -/
structure ExI where
  nm : Str
  qual : Str
  ini : Stmt
  self : Str
  fs : List Str
/-- the def in a class -/
def iniOf (s : Stmt) : Stmt := match s with
  | .ClassDef _ _ _ b _ _ _ _ _ _ _ => (b.find? fun t => match t with
    | .FunctionDef .. => true
    | _ => false).getD s
  | _ => s
/-- a def: its name, its statement, whether it holds a lambda, its parameters, its names, its meaning -/
structure DR where
  nm : Str
  st : Stmt
  la : Bool
  ps : List Str
  N : List Str
  m : MS
def DR.dd (d : DR) : He.DefD := ⟨(d.nm, none), d.nm, d.nm, defArgs d.st, defBody d.st, defScope d.st, [], []⟩
structure HD where
  /-- names that stand for nothing of the module -/
  fr : List Str
  L : List DR
  xs : List ExI
  /-- the module's texts, tuples of texts -/
  ss : List (Str × Str)
  ts : List (Str × List Str)
  file : Str
def HD.fn (D : HD) : List He.DefD := D.L.map DR.dd
/-! ### the part of the heap -/
def noTab (o : Option Obj) : Bool := match o with
  | some ⟨_, _, .fields vs, _⟩ => !vs.isEmpty
  | _ => true
def rootsM (g : Addr → Option Obj) (n : Nat) : List Addr := (He.asD g n ++ [sysModules, cStatics]).filter fun a => noTab (g a)
def frM (g : Addr → Option Obj) (n : Nat) : PySem.W.Frag := He.frG g (rootsM g n)
theorem lookup_mem {α : Type} {a : Addr} {o : α} : ∀ {l : List (Addr × α)}, l.lookup a = some o → (a, o) ∈ l
  | [], h => by cases h
  | (b, u) :: l, h => by
    rw [List.lookup_cons] at h
    split at h
    · rename_i e
      have e2 := beq_iff_eq.mp e
      cases h
      rw [e2]
      exact List.mem_cons_self
    · exact List.mem_cons_of_mem _ (lookup_mem h)
theorem frG_mem {g : Addr → Option Obj} {as : List Addr} {a : Addr} {o : Obj} (h : (He.frG g as).lookup a = some o) : a ∈ as := by
  have m := lookup_mem h
  unfold He.frG at m
  obtain ⟨b, hb, e⟩ := List.mem_filterMap.mp m
  cases q : g b with
  | none => rw [q] at e; cases e
  | some u => rw [q] at e; cases e; exact hb
theorem frM_noTab {g : Addr → Option Obj} {n : Nat} {a : Addr} {o : Obj} (h : (frM g n).lookup a = some o) : noTab (some o) = true := by
  have h1 := He.frG_at _ h
  have h2 := (List.mem_filter.mp (frG_mem h)).2
  rw [h1] at h2
  exact h2
/-! ### exceptions -/
abbrev ExW : Type := Option (Str × Str × Arguments × FuncBody × Scope × Addr × List Str × Value × Addr)
def exC (K : PySem.W.Frag) (e : ExI) : Addr := He.ga K e.nm
def exI (K : PySem.W.Frag) (e : ExI) : Addr := He.ma K (exC K e) "__init__"
def exW (K : PySem.W.Frag) (e : ExI) : ExW := match K.lookup (exI K e) with
  | some ⟨_, _, .func fd, _⟩ => some (fd.name, fd.qualname, fd.params, fd.body, fd.scope, fd.globals, fd.closure.map (·.1), fd.defaults, fd.builtins)
  | _ => none
def ExI.val (e : ExI) : ExW := some ("__init__", e.qual, defArgs e.ini, .stmts (defBody e.ini), defScope e.ini, mainGlobals, ["__class__"], .none, builtinsNs)
def clsB (K : PySem.W.Frag) (C : Addr) : Bool := match K.lookup C with
  | some ⟨.type "type", _, .cls cd, sl⟩ => (match cd.mro, sl.toList with
    | .ref C' :: bm, [_, _, _, _, some (.builtin n), _] => C' == C && n == "ValueError.__new__" && !cd.hasDel && cd.hasDict && PySem.HandSPX.refsVE bm
    | _, _ => false)
  | _ => false
theorem clsB_ok {K : PySem.W.Frag} {C : Addr} (q : clsB K C = true) : ∃ nm q N bs bm sn sub ab col dd k0 k1 k2 k3 k5, K.lookup C = some (excClassObj nm q C N bs bm true sn sub ab col dd k0 k1 k2 k3 k5 "ValueError.__new__") ∧ PySem.HandSPX.refsVE bm = true := by
  unfold clsB at q
  split at q
  · rename_i dd cd sl ho
    split at q
    · rename_i C' bm k0 k1 k2 k3 n k5 hm hs
      simp only [Bool.and_eq_true, beq_iff_eq, Bool.not_eq_true'] at q
      obtain ⟨⟨⟨⟨rfl, rfl⟩, h1⟩, h2⟩, h3⟩ := q
      obtain ⟨nm, bs, mro, ns, qn, hd, sn, sub, ab, col, del⟩ := cd
      dsimp only at hm h1 h2
      subst hm h1 h2
      obtain ⟨l⟩ := sl
      have e : l = [k0, k1, k2, k3, some (.builtin "ValueError.__new__"), k5] := hs
      subst e
      exact ⟨_, _, _, _, bm, _, _, _, _, _, _, _, _, _, _, ho, h3⟩
    · cases q
  · cases q
def codeB (K : PySem.W.Frag) (file : Str) (c : Addr) : Bool := match K.lookup c with
  | some ⟨_, _, .fields vs, _⟩ => (match (vs[2]? : Option Value) with
    | some (.str f _) => file == f
    | _ => false)
  | _ => false
def cellB (K : PySem.W.Frag) (cc C : Addr) : Bool := match K.lookup cc with
  | some ⟨_, _, .cell (some (.ref D)), _⟩ => D == C
  | _ => false
def iniB (K : PySem.W.Frag) (file : Str) (e : ExI) : Bool := match K.lookup (exI K e) with
  | some ⟨_, _, .func fd, _⟩ => (match fd.closure, fd.code with
    | [(_, cc)], .ref cda => PySem.W.codeIn K (.ref cda) e.qual && codeB K file cda && cellB K cc (exC K e)
    | _, _ => false)
  | _ => false
def exB (K : PySem.W.Frag) (file : Str) (e : ExI) : Bool :=
  He.eqO (PySem.W.nsIn K mainGlobals e.nm) (some (some (.ref (exC K e)))) && (clsB K (exC K e) && (iniB K file e && (xfB K (exC K e) && (PySem.W.keepIn K (.ref (exC K e)) &&
  (decide (PySem.W.findIn K (.ref (exC K e)) "__setattr__" = some (some (.builtin "object.__setattr__"))) && (decide (PySem.W.typeIn K (.ref (exC K e)) = some (.type "type")) && (decide (PySem.W.mroIn K (exC K e) (.ref (exC K e)) = some true) &&
  (decide (PySem.W.ks_superIn K (exC K e) (exC K e) "__init__" = some (some (.builtin "ValueError.__init__"))) && (decide (PySem.W.subIn K (.ref (exC K e)) (.type "ValueError") = some true) && (decide (PySem.W.nsIn K cStatics "thirdparty.any" = some none) &&
  (decide (PySem.W.findIn K (.ref (exC K e)) "__init__" = some (some (.ref (exI K e)))) && (decide (PySem.W.typeIn K (.ref (exI K e)) = some (.type "function")) && e.fs.all fun f => decide (PySem.W.findIn K (.ref (exC K e)) f = some none)))))))))))))
/-- what is known of a class -/
structure ExF (P : Program) (K : PySem.W.Frag) (mg : Str → Option Value) (e : ExI) (fd : FuncData) : Prop where
  glob : mg e.nm = some (.ref (exC K e))
  ini : ∃ cc cda, InitK P K mg (exC K e) (exI K e) cc cda e.qual (defArgs e.ini) (defBody e.ini) (defScope e.ini) fd
  fd : ∃ cc kV doc pm an cda ct, fd = PySem.W.fnX "__init__" e.qual (defArgs e.ini) (defBody e.ini) (defScope e.ini) [("__class__", cc)] .none kV doc pm an (.ref cda) ct
  xf : XfC K (exC K e)
  nof : ∀ f ∈ e.fs, PySem.W.findIn K (.ref (exC K e)) f = some none
theorem ba {a b : Bool} (h : (a && b) = true) : a = true ∧ b = true := Bool.and_eq_true_iff.mp h
theorem exF_of {P : Program} {K : PySem.W.Frag} {h : Heap} {mg : Str → Option Value} {e : ExI} (kx : K.In h) (G : h.Ns mainGlobals mg) (hw : exW K e = e.val) (hb : exB K P.main.file e = true) (hS : mg "super" = none) (hT : (P.main.scope.names.lookup ("super" : Str)).isSome = false) : ∃ fd, ExF P K mg e fd := by
  unfold exB at hb
  obtain ⟨b1, hb⟩ := ba hb
  obtain ⟨b2, hb⟩ := ba hb
  obtain ⟨b3, hb⟩ := ba hb
  obtain ⟨b4, hb⟩ := ba hb
  obtain ⟨b5, hb⟩ := ba hb
  obtain ⟨b6, hb⟩ := ba hb
  obtain ⟨b7, hb⟩ := ba hb
  obtain ⟨b8, hb⟩ := ba hb
  obtain ⟨b9, hb⟩ := ba hb
  obtain ⟨b10, hb⟩ := ba hb
  obtain ⟨b11, hb⟩ := ba hb
  obtain ⟨b12, hb⟩ := ba hb
  obtain ⟨b13, b14⟩ := ba hb
  have xf := xfB_ok b4
  unfold exW at hw
  unfold iniB at b3
  cases q : K.lookup (exI K e) with
  | none => rw [q] at b3; cases b3
  | some o =>
    obtain ⟨oc, od, dt, osl⟩ := o
    rw [q] at b3 hw
    cases dt with
    | func fd =>
      obtain ⟨n1, n2, n3, n4, n5, n6, n7, n8, n9, n10, n11, n12, n13, n14, n15⟩ := fd
      have hw2 : (some (n1, n2, n3, n4, n5, n6, n7.map (·.1), n8, n15) : ExW) = (some (("__init__" : Str), e.qual, defArgs e.ini, FuncBody.stmts (defBody e.ini), defScope e.ini, mainGlobals, [("__class__" : Str)], Value.none, builtinsNs) : ExW) := hw
      simp only [Option.some.injEq, Prod.mk.injEq] at hw2
      obtain ⟨h1, h2, h3, h4, h5, h6, h7, h8, h9⟩ := hw2
      subst h1 h2 h3 h4 h5 h6 h8 h9
      match n7, h7 with
      | [(x, cc)], h7 =>
        have ex : x = "__class__" := by simpa using h7
        subst ex
        cases n13 with
        | ref cda =>
          have b3' : (PySem.W.codeIn K (.ref cda) e.qual && codeB K P.main.file cda && cellB K cc (exC K e)) = true := b3
          obtain ⟨b3', c3⟩ := ba b3'
          obtain ⟨c1, c2⟩ := ba b3'
          refine ⟨_, ⟨He.glo_ok kx G b1, ⟨cc, cda, ?_⟩, ⟨cc, n9, n10, n11, n12, cda, n14, rfl⟩, xf, fun f hf => of_decide_eq_true (List.all_eq_true.mp b14 f hf)⟩⟩
          refine ⟨⟨clsB_ok b2, of_decide_eq_true b6, xf.exC, of_decide_eq_true b7, b5⟩, ⟨oc, od, .none, n9, n10, n11, n12, n14, osl, rfl, q⟩, c1, ?_, ?_, of_decide_eq_true b8, of_decide_eq_true b9, of_decide_eq_true b10, of_decide_eq_true b11, hS, hT, of_decide_eq_true b12, of_decide_eq_true b13⟩
          · unfold codeB at c2
            split at c2
            · rename_i ccl cdd vs ccs hl
              split at c2
              · rename_i f tf hv
                exact ⟨_, _, vs, _, f, tf, hl, hv, c2⟩
              · cases c2
            · cases c2
          · unfold cellB at c3
            split at c3
            · rename_i cl cld D csl hl
              have eD : D = exC K e := by simpa using c3
              subst eD
              exact ⟨_, _, _, hl⟩
            · cases c3
        | _ => cases b3
    | _ => cases b3
/-! ### the tables of code objects -/
/-- a def's code object, its table -/
def cdAt (K : PySem.W.Frag) (d : DR) : Addr := match K.lookup (He.ga K d.nm) with
  | some ⟨_, _, .func fd, _⟩ => (match fd.code with
    | .ref c => c
    | _ => 0)
  | _ => 0
def tbAt (K : PySem.W.Frag) (d : DR) : Addr := match K.lookup (cdAt K d) with
  | some ⟨_, _, .fields vs, _⟩ => (match (vs[11]? : Option Value) with
    | some (.ref P) => P
    | _ => 0)
  | _ => 0
def tbB (K : PySem.W.Frag) (d : DR) : Bool := match K.lookup (He.ga K d.nm) with
  | some ⟨_, _, .func fd, _⟩ => (match fd.code with
    | .ref c => (match K.lookup c with
      | some ⟨_, _, .fields vs, _⟩ => (match (vs[11]? : Option Value) with
        | some (.ref _) => true
        | _ => false)
      | _ => false)
    | _ => false)
  | _ => false
def lamQ (d : DR) : Str := d.nm ++ ".<locals>." ++ "<lambda>"
def lamDs (D : HD) : List DR := D.L.filter fun d => d.la
def tabsM (D : HD) (K : PySem.W.Frag) : List (Addr × Str) := (lamDs D).map fun d => (tbAt K d, lamQ d)
def csM (D : HD) (K : PySem.W.Frag) : List (Addr × Addr) := (lamDs D).map fun d => (cdAt K d, tbAt K d)
/-! ### all of it -/
def exmB (K : PySem.W.Frag) : List ExI → Bool
  | [] => true
  | e :: es => decide (PySem.W.exmOne K (.ref (exC K e)) (.ref (exC K e)) = some true) && (es.all fun f => decide (PySem.W.exmOne K (.ref (exC K e)) (.ref (exC K f)) = some false) && decide (PySem.W.exmOne K (.ref (exC K f)) (.ref (exC K e)) = some false)) && exmB K es
def sysB (K : PySem.W.Frag) : Bool := match K.lookup sysModules with
  | some ⟨_, _, .dict _ _, _⟩ => true
  | _ => false
theorem sysB_ok {K : PySem.W.Frag} (h : sysB K = true) : SysK K := by
  unfold sysB at h
  split at h
  · rename_i c d es n sl e
    exact ⟨c, d, es, n, sl, e⟩
  · cases h
def tupsB (K : PySem.W.Frag) (q : Str × List Str) : Bool := He.eqO (PySem.W.nsIn K mainGlobals q.1) (some (some (.ref (He.ga K q.1)))) && He.tupB K q.1 (q.2.map He.Dv.str)
def tabB (K : PySem.W.Frag) (T : List (Addr × Str)) : Bool := T.all fun p => T.all fun p' => !(p.1 == p'.1) || p.2 == p'.2
def boolM (D : HD) (K : PySem.W.Frag) : Bool := (D.fr.all fun x => (He.Fa.free x).ok K) && ((D.fn.all fun d => d.ok K) && ((D.L.all fun d => (He.Fa.glo d.nm).ok K) && ((D.ss.all fun q => (He.Fa.str q.1 q.2).ok K) && ((D.xs.all fun e => exB K D.file e) && (exmB K D.xs && (sysB K && ((D.ts.all fun q => tupsB K q) && (((lamDs D).all fun d => tbB K d) && tabB K (tabsM D K)))))))))
abbrev AlM : Type := Bool × List He.FnW × List ExW
def obsM (D : HD) (K : PySem.W.Frag) : AlM := (boolM D K, D.fn.map fun d => He.fnW K d.at_, D.xs.map fun e => exW K e)
def valM (D : HD) : AlM := (true, D.fn.map He.DefD.val, D.xs.map ExI.val)
def obsG (n : Nat) (D : HD) (g : Addr → Option Obj) : AlM := obsM D (frM g n)
/-- what is known behind the top -/
structure SaysM (D : HD) (K : PySem.W.Frag) : Prop where
  eq : obsM D K = valM D
  nt : ∀ a o, K.lookup a = some o → noTab (some o) = true
def hookM (n : Nat) (D : HD) : PySem.W.Hook where
  α := AlM
  obs := fun s => obsG n D s.heap.get?
  val := fun _ => valM D
  says := fun _ h => ∃ K : PySem.W.Frag, K.In h ∧ SaysM D K
  of := fun _ _ e => ⟨_, He.frG_in, ⟨e, fun _ _ => frM_noTab⟩⟩
  keeps := fun _ _ _ ⟨K, hK, c⟩ k => ⟨K, PySem.W.Frag.In.keeps hK k, c⟩
theorem obsG_eq {n : Nat} {D : HD} {g : Addr → Option Obj} {s : Shared} (h : ∀ a, g a = s.heap.get? a) : obsG n D g = (hookM n D).obs s := by
  have e : g = s.heap.get? := funext h
  rw [e] <;> rfl
section
variable {D : HD} {K : PySem.W.Frag}
structure SaysA (D : HD) (K : PySem.W.Frag) : Prop where
  fr : ∀ x ∈ D.fr, (He.Fa.free x).ok K = true
  fn : ∀ d ∈ D.fn, d.ok K = true
  gl : ∀ d ∈ D.L, (He.Fa.glo d.nm).ok K = true
  ss : ∀ q ∈ D.ss, (He.Fa.str q.1 q.2).ok K = true
  xs : ∀ e ∈ D.xs, exB K D.file e = true
  xm : exmB K D.xs = true
  sy : SysK K
  ts : ∀ q ∈ D.ts, tupsB K q = true
  tb : ∀ d ∈ lamDs D, tbB K d = true
  tq : tabB K (tabsM D K) = true
theorem SaysM.all (c : SaysM D K) : SaysA D K := by
  have h : boolM D K = true := congrArg (fun z : AlM => z.1) c.eq
  unfold boolM at h
  obtain ⟨b1, h⟩ := ba h
  obtain ⟨b2, h⟩ := ba h
  obtain ⟨b3, h⟩ := ba h
  obtain ⟨b4, h⟩ := ba h
  obtain ⟨b5, h⟩ := ba h
  obtain ⟨b6, h⟩ := ba h
  obtain ⟨b7, h⟩ := ba h
  obtain ⟨b8, h⟩ := ba h
  obtain ⟨b9, b10⟩ := ba h
  exact ⟨List.all_eq_true.mp b1, List.all_eq_true.mp b2, List.all_eq_true.mp b3, List.all_eq_true.mp b4, List.all_eq_true.mp b5, b6, sysB_ok b7, List.all_eq_true.mp b8, List.all_eq_true.mp b9, b10⟩
theorem SaysM.def_ (c : SaysM D K) {d : He.DefD} (h : d ∈ D.fn) : ∃ fd, FunD K d.name d.qual d.params d.body d.scope (d.dvs K) (d.kws K) (He.fAd K d.at_) fd := by
  have e : D.fn.map (fun d => He.fnW K d.at_) = D.fn.map He.DefD.val := congrArg (fun z : AlM => z.2.1) c.eq
  obtain ⟨i, hi⟩ := List.mem_iff_getElem?.mp h
  have e2 : (D.fn.map fun d => He.fnW K d.at_)[i]? = (D.fn.map He.DefD.val)[i]? := by rw [e]
  rw [List.getElem?_map, List.getElem?_map, hi] at e2
  exact He.DefD.funD (Option.some.inj e2) (c.all.fn d h)
theorem SaysM.exc {P : Program} {h : Heap} {mg : Str → Option Value} (c : SaysM D K) (kx : K.In h) (G : h.Ns mainGlobals mg) (hf : P.main.file = D.file) (hS : mg "super" = none) (hT : (P.main.scope.names.lookup ("super" : Str)).isSome = false) {x : ExI} (hx : x ∈ D.xs) : ∃ fd, ExF P K mg x fd := by
  have e : D.xs.map (fun e => exW K e) = D.xs.map ExI.val := congrArg (fun z : AlM => z.2.2) c.eq
  obtain ⟨i, hi⟩ := List.mem_iff_getElem?.mp hx
  have e2 : (D.xs.map fun e => exW K e)[i]? = (D.xs.map ExI.val)[i]? := by rw [e]
  rw [List.getElem?_map, List.getElem?_map, hi] at e2
  exact exF_of kx G (Option.some.inj e2) (by rw [hf]; exact c.all.xs x hx) hS hT
theorem exmB_at : ∀ {es : List ExI} {i j : Nat} {e f : ExI}, exmB K es = true → es[i]? = some e → es[j]? = some f → PySem.W.exmOne K (.ref (exC K e)) (.ref (exC K f)) = some (decide (i = j))
  | [], i, _, _, _, _, h, _ => by simp at h
  | a :: es, i, j, e, f, b, h1, h2 => by
    unfold exmB at b
    obtain ⟨b, b3⟩ := ba b
    obtain ⟨b1, b2⟩ := ba b
    match i, j with
    | 0, 0 =>
      simp at h1 h2
      subst h1 h2
      exact of_decide_eq_true b1
    | 0, j + 1 =>
      simp at h1 h2
      subst h1
      have z := (ba (List.all_eq_true.mp b2 f (List.mem_of_getElem? h2))).1
      rw [of_decide_eq_true z]
      simp
    | i + 1, 0 =>
      simp at h1 h2
      subst h2
      have z := (ba (List.all_eq_true.mp b2 e (List.mem_of_getElem? h1))).2
      rw [of_decide_eq_true z]
      simp
    | i + 1, j + 1 =>
      simp at h1 h2
      rw [exmB_at b3 h1 h2]
      simp
/-! ### an exception with one field, with two -/
theorem ExF.binds {P : Program} {mg : Str → Option Value} {e : ExI} {fd : FuncData} (F : ExF P K mg e fd) {ps : List Str} (h : ∀ (cc : Addr) (kV doc pm : Value) (an : Option Addr) (cda : Addr) (ct : Value) (us : List Value), us.length = ps.length → bindArgs (PySem.W.fnX "__init__" e.qual (defArgs e.ini) (defBody e.ini) (defScope e.ini) [("__class__", cc)] .none kV doc pm an (.ref cda) ct) ⟨us, []⟩ = pure (ps.zip us)) : Binds K fd ps [] := by
  obtain ⟨cc, kV, doc, pm, an, cda, ct, rfl⟩ := F.fd
  exact .all (h cc kV doc pm an cda ct)
theorem ExF.raise {P : Program} {w : World} {mg : Str → Option Value} {base : Heap} {e : ExI} {fd : FuncData} (F : ExF P K mg e fd) (self : Str) (ok : ∀ cc cda, InitK P K mg (exC K e) (exI K e) cc cda e.qual (defArgs e.ini) (defBody e.ini) (defScope e.ini) fd → FnOk P w K mg base (L2.CX P w) 1 (exI K e) fd (self :: e.fs) (spIn (exC K e) e.fs)) (hb : Binds K fd (self :: e.fs) []) : RaiseK P w K mg base e.nm (exC K e) (exI K e) fd e.fs 1 := by
  obtain ⟨cc, cda, I⟩ := F.ini
  exact ⟨I.oex, I.inK, I.tyI, ⟨self, ok cc cda I, hb⟩, F.glob, F.xf, F.nof⟩
end
end Mi
set_option Elab.async false
set_option linter.all false
set_option maxRecDepth 100000
set_option maxHeartbeats 1000000
/-! Mi, part 33: the text as a whole. -/
namespace Mi
open PySem PySem.Spec PyProof.Rows L2
def txs (s : Str) : Tx := s.cps.toList
inductive Every {α : Type} (p : α → Prop) : List α → Prop
  | nil : Every p []
  | cons {a : α} {as : List α} : p a → Every p as → Every p (a :: as)
theorem Every.mem {α : Type} {p : α → Prop} : ∀ {as : List α}, Every p as → ∀ a ∈ as, p a
  | _, .nil, _, h => nomatch h
  | _, .cons h1 h2, a, h => by
    rcases List.mem_cons.mp h with rfl | h
    · exact h1
    · exact h2.mem a h
/-! ### what a body's proof leans on -/
/-- the i-th def -/
def TD (g : G) (i : Nat) (nm : Str) (st : Stmt) (ps : List Str) : Prop := ∃ f fd, g.tab i = some ⟨f, fd, ps, nm⟩ ∧ FunD g.K nm nm (defArgs st) (defBody st) (defScope st) [] [] f fd ∧ g.mg nm = some (.ref f) ∧ Binds g.K fd ps []
def GStr (g : G) (x z : Str) : Prop := ∃ t, g.mg x = some (.str z t)
def GTup (g : G) (x : Str) (zs : List Str) : Prop := ∃ a, g.mg x = some (.ref a) ∧ ∀ H, SqT g.K H a (zs.map V.str)
def LamAt (X : Cx) (g : G) : Prop := ∃ cc P, LamX.TabB X.base X.mg cc P ∧ X.env.code = .ref cc ∧ (P, X.env.qual ++ "<lambda>") ∈ g.T ∧ ∀ p ∈ g.T, p.1 = P → p.2 = X.env.qual ++ "<lambda>"
section
variable {X : Cx} {W : WX} {g : G} {q : Qc}
theorem snd_callN {i : Nat} {nm : Str} {st : Stmt} {ps : List Str} {e : Expr} {es : List Expr} {m : M D} {ms : List (M D)} {p pos : Pos} (c : Good X W g q) (ht : TD g i nm st ps) (hg : GlQ q nm) (ha : PA X (e :: es) (tAlls g W (m :: ms))) (hl : (m :: ms).length = ps.length)
    (hdb : (nm == ("__debug__" : Str)) = false := by decide) (he : starEach (e :: es) X.env = (false, eval e X.env) :: starEach es X.env := by rfl) (hpl : (backTo pos (starEach es X.env)).any (·.1) = false := by rfl) : PE X (.Call (.Name nm p) (e :: es) [] pos) (tX g W (mCall i (m :: ms))) := by
  obtain ⟨f, fd, h, _⟩ := ht
  exact snd_call c h hg ha hl hdb he hpl
theorem KB_of {i : Nat} {nm : Str} {st : Stmt} {ps : List Str} {f : Addr} {fd : FuncData} {K : PySem.W.Frag} {ks : List Str} {n : Nat} {perm : List Nat} (F : FunD K nm nm (defArgs st) (defBody st) (defScope st) [] [] f fd)
    (h : ∀ (kV doc pm' : Value) (an : Option Addr) (cdv ct : Value) (us ws : List Value), us.length = n → ws.length = ks.length → bindArgs (PySem.W.fnOf nm nm (defArgs st) (defBody st) (defScope st) .none kV doc pm' an cdv ct) ⟨us, ks.zip ws⟩ = pure (ps.zip (pm perm (us ++ ws)))) : KB K fd ps ks n perm := fun s us ws _ h1 h2 => by
  obtain ⟨oc, od, dV, kV, doc, pm', an, cdv, ct, osl, rfl, lk, hcd, hD, hK⟩ := F.ex
  rcases hD with ⟨_, rfl⟩ | ⟨e, _⟩
  · exact .of_eq (h kV doc pm' an cdv ct us ws h1 h2)
  · exact absurd rfl e
theorem snd_callKN0 {i : Nat} {nm : Str} {st : Stmt} {ps ks : List Str} {perm : List Nat} {kws : List Keyword} {mk : List (M D)} {p pos : Pos} (c : Good X W g q) (ht : TD g i nm st ps) (hg : GlQ q nm)
    (hbn : ∀ (kV doc pm' : Value) (an : Option Addr) (cdv ct : Value) (us ws : List Value), us.length = 0 → ws.length = ks.length → bindArgs (PySem.W.fnOf nm nm (defArgs st) (defBody st) (defScope st) .none kV doc pm' an cdv ct) ⟨us, ks.zip ws⟩ = pure (ps.zip (pm perm (us ++ ws))))
    (hl : perm.length = ps.length) (hp : ∀ j ∈ perm, j < 0 + mk.length) (hkl : mk.length = ks.length) (hkw : PKs X g W kws mk)
    (hall : (backToKw pos (keywordEach kws X.env)).all (·.1.isSome) = true := by rfl) (hks : (backToKw pos (keywordEach kws X.env)).filterMap (·.1) = ks := by rfl)
    (hdb : (nm == ("__debug__" : Str)) = false := by decide) (hpl : ((backTo pos (starEach [] X.env)).any (·.1) || (backToKw pos (keywordEach kws X.env)).any (·.1.isNone)) = false := by rfl) :
    PE X (.Call (.Name nm p) [] kws pos) (tX g W (mCallK i perm [] mk)) := by
  obtain ⟨f, fd, h, F, _, _⟩ := ht
  exact snd_callK0 c h hg (KB_of (i := i) (by rw [c.K]; exact F) hbn) hl hp hkl hkw hall hks hdb hpl
theorem snd_callKN {i n : Nat} {nm : Str} {st : Stmt} {ps ks : List Str} {perm : List Nat} {e : Expr} {es : List Expr} {ms : List (M D)} {kws : List Keyword} {mk : List (M D)} {p pos : Pos} (c : Good X W g q) (ht : TD g i nm st ps) (hg : GlQ q nm)
    (hbn : ∀ (kV doc pm' : Value) (an : Option Addr) (cdv ct : Value) (us ws : List Value), us.length = ms.length → ws.length = ks.length → bindArgs (PySem.W.fnOf nm nm (defArgs st) (defBody st) (defScope st) .none kV doc pm' an cdv ct) ⟨us, ks.zip ws⟩ = pure (ps.zip (pm perm (us ++ ws))))
    (hl : perm.length = ps.length) (hp : ∀ j ∈ perm, j < ms.length + mk.length) (hkl : mk.length = ks.length) (ha : PA X (e :: es) (tAlls g W ms)) (hkw : PKs X g W kws mk)
    (hall : (backToKw pos (keywordEach kws X.env)).all (·.1.isSome) = true := by rfl) (hks : (backToKw pos (keywordEach kws X.env)).filterMap (·.1) = ks := by rfl)
    (hdb : (nm == ("__debug__" : Str)) = false := by decide) (he : starEach (e :: es) X.env = (false, eval e X.env) :: starEach es X.env := by rfl) (hpl : ((backTo pos (starEach (e :: es) X.env)).any (·.1) || (backToKw pos (keywordEach kws X.env)).any (·.1.isNone)) = false := by rfl) :
    PE X (.Call (.Name nm p) (e :: es) kws pos) (tX g W (mCallK i perm ms mk)) := by
  obtain ⟨f, fd, h, F, _, _⟩ := ht
  exact snd_callK c h hg (KB_of (i := i) (by rw [c.K]; exact F) hbn) hl hp hkl ha hkw hall hks hdb he hpl
theorem snd_gstr {x z : Str} {p : Pos} (c : Good X W g q) (h : GStr g x z) (hg : GlQ q x) (hd : (x == ("__debug__" : Str)) = false := by decide) : PE X (.Name x p) (tE g W (mC (.str (txs z)))) := by
  obtain ⟨t, h⟩ := h
  refine PE.imp (pe_glob (v := .str z) (by unfold Gl Env.kindOf; rw [c.sc]; exact hg) (by rw [c.mg]; exact h) ⟨t, rfl⟩ hd) fun σ H Q ⟨B, F, r, f, S, s, q⟩ => ?_
  exact Run.ok (P := PD g) (a := .str (txs z)) q s (by have e := RepV.str (K := g.K) (F := F) (r := r) (txs z); rw [show toStr (txs z) = z from toStr_mk z] at e; exact e)
theorem repL_strs {F : Hp} {r : List Addr} : ∀ zs : List Str, RepL g.K F r (zs.map fun z => .str (txs z)) (zs.map V.str)
  | [] => .nil
  | z :: zs => .cons (by have e := RepV.str (K := g.K) (F := F) (r := r) (txs z); rw [show toStr (txs z) = z from toStr_mk z] at e; exact e) (repL_strs zs)
theorem snd_gtup {x : Str} {zs : List Str} {p : Pos} (c : Good X W g q) (h : GTup g x zs) (hg : GlQ q x) (hd : (x == ("__debug__" : Str)) = false := by decide) : PE X (.Name x p) (tE g W (mC (.tup (zs.map fun z => .str (txs z))))) := by
  obtain ⟨a, h, hs⟩ := h
  refine PE.imp (pe_glob (v := .ref a) (by unfold Gl Env.kindOf; rw [c.sc]; exact hg) (by rw [c.mg]; exact h) rfl hd) fun σ H Q ⟨B, F, r, f, S, s, q⟩ => ?_
  exact Run.ok (P := PD g) (a := .tup _) q s (.tup (hs F) (repL_strs zs))
theorem snd_lamN (c : Good X W g q) (fr : Frm X) {i : Nat} {x a : Str} {st : Stmt} {Ng : List Str} {params : Arguments} {body : Expr} {scope : Scope} {mb : MS} {lb : M DX} {p lpos pos : Pos} (ht : TD g i x st [a]) (la : LamAt X g) (hg : GlQ q x) (Sg : FnScope Ng [a] (defScope st)) (hNg : Ng[0]? = some a) (hva : Vis (defScope st) a)
    (L : LamX.LamS q.sc scope) (hdef : defaultsOf params X.env = ([], []))
    (hbind : ∀ (q : Str) (cl : List (Str × Addr)) (pm cv ctv : Value), bindArgs (PySem.W.kla_fn "<lambda>" q params body scope cl pm cv ctv) ⟨[], []⟩ = pure [])
    (hbody : ∀ X' W', Good X' W' g.low ⟨scope, q.N, fun _ => false⟩ → PE X' body (tX g.low W' lb))
    (hmet : ∀ (X0 : Cx) (W0 : WX) lm lf Fg rg, Good X0 W0 (g.met lm lf Fg rg) ⟨defScope st, Ng, fun _ => true⟩ → Frm X0 →
      (∀ (pn : List (Addr × Obj)) (xe : Value → Shared → Prop) (W' : WX) (p1 p2 : Pos), Takes (X0.tr pn xe) W' → PE (X0.tr pn xe) (.Call (.Name a p1) [] [] p2) (tX (g.met lm lf Fg rg) W' mLam)) → PSs X0 (defBody st) (tS (g.met lm lf Fg rg) W0 mb))
    (hdb : (x == ("__debug__" : Str)) = false := by decide) (hd : (a == ("__debug__" : Str)) = false := by decide) (hcd : (a == ("__classdict__" : Str)) = false := by decide) :
    PE X (.Call (.Name x p) [.Lambda params body scope lpos] [] pos) (tX g W (mLamCall Ng.length mb lb)) := by
  obtain ⟨f, fd, _, F, hm, hb⟩ := ht
  obtain ⟨cc, P, TB, hcode, hmT, hu⟩ := la
  obtain ⟨oc, od, dV, kV, doc, pm', an, cdv, ct, osl, rfl, lk, hcd', hD, hK⟩ := F.ex
  exact snd_lamcall c fr hg (by rw [c.mg]; exact hm) (by rw [c.K]; exact F.kp) (by rw [c.K]; exact lk) (by rw [c.K]; exact hcd') (by rw [c.K]; exact hb) Sg hNg hva TB hcode hmT hu L hdef hbind hbody hmet hdb hd hcd
end
/-! ### the text's state -/
def fiOf (K : PySem.W.Frag) (d : DR) : Option FnI := match K.lookup (He.ga K d.nm) with
  | some ⟨_, _, .func fd, _⟩ => some ⟨He.ga K d.nm, fd, d.ps, d.nm⟩
  | _ => none
def bdM (D : HD) (i : Nat) : Option (Nat × MS) := (D.L[i]?).map fun d => (d.N.length, d.m)
def dfM (D : HD) (i : Nat) : Option DefT := (D.L[i]?).map fun d => ⟨d.nm, defArgs d.st, defBody d.st, defScope d.st, d.N, d.m⟩
def gM (D : HD) (K : PySem.W.Frag) (mg : Str → Option Value) : G where
  K := K
  T := tabsM D K
  mg := mg
  tab := fun i => (D.L[i]?).bind (fiOf K)
  lv := 0
  call := badC
  lamf := fun _ => .bad
  dep := 0
  lo := badC
  cls := fun c => match D.xs[c]? with
    | some e => exC K e
    | none => 0
  exc := fun c => (D.xs[c]?).map fun e => (e.nm, e.fs.map txs)
  ex := none
  lm := none
  lF := fun _ => none
  lr := []
/-- what is written of a def -/
def DefOk (d : DR) : Prop := FnScope d.N d.ps (defScope d.st) ∧ ∀ (kV doc pm : Value) (an : Option Addr) (cdv ct : Value) (us : List Value), us.length = d.ps.length → bindArgs (PySem.W.fnOf d.nm d.nm (defArgs d.st) (defBody d.st) (defScope d.st) .none kV doc pm an cdv ct) ⟨us, []⟩ = pure (d.ps.zip us)
/-- .. of an exception class -/
def ExOk (e : ExI) : Prop := (∀ (P : Program) (w : World) (K : PySem.W.Frag) (mg : Str → Option Value) (base : Heap) (C fI cc cda : Addr) (fd : FuncData), InitK P K mg C fI cc cda e.qual (defArgs e.ini) (defBody e.ini) (defScope e.ini) fd → (∀ f ∈ e.fs, PySem.W.findIn K (.ref C) f = some none) → FnOk P w K mg base (L2.CX P w) 1 fI fd (e.self :: e.fs) (spIn C e.fs)) ∧
  ∀ (cc : Addr) (kV doc pm : Value) (an : Option Addr) (cda : Addr) (ct : Value) (us : List Value), us.length = (e.self :: e.fs).length → bindArgs (PySem.W.fnX "__init__" e.qual (defArgs e.ini) (defBody e.ini) (defScope e.ini) [("__class__", cc)] .none kV doc pm an (.ref cda) ct) ⟨us, []⟩ = pure ((e.self :: e.fs).zip us)
/-- a body does what its meaning tells, wherever the names stand for the text's things -/
def Kin (D : HD) (K : PySem.W.Frag) (mg : Str → Option Value) (g : G) : Prop := g.K = K ∧ g.T = tabsM D K ∧ g.mg = mg ∧ g.tab = (gM D K mg).tab ∧ g.exc = (gM D K mg).exc
def BodyOk (D : HD) (K : PySem.W.Frag) (mg : Str → Option Value) (d : DR) : Prop := ∀ (X : Cx) (W : WX) (g : G), Kin D K mg g → Good X W g ⟨defScope d.st, d.N, fun _ => true⟩ → Frm X → (d.la = true → LamAt X g) → PSs X (defBody d.st) (tS g W d.m)
section
variable {D : HD} {K : PySem.W.Frag} {h : Heap} {mg : Str → Option Value}
theorem fiOf_ok (c : SaysM D K) {d : DR} (hd : d ∈ D.L) : ∃ fd, FunD K d.nm d.nm (defArgs d.st) (defBody d.st) (defScope d.st) [] [] (He.ga K d.nm) fd ∧ fiOf K d = some ⟨He.ga K d.nm, fd, d.ps, d.nm⟩ := by
  obtain ⟨fd, F⟩ := c.def_ (d := d.dd) (List.mem_map_of_mem hd)
  obtain ⟨oc, od, dV, kV, doc, pm, an, cdv, ct, osl, e, lk, _⟩ := F.ex
  refine ⟨fd, F, ?_⟩
  have lk' : K.lookup (He.ga K d.nm) = some ⟨oc, od, .func fd, osl⟩ := lk
  unfold fiOf
  rw [lk'] <;> rfl
theorem td_of (c : SaysM D K) (kx : K.In h) (G : h.Ns mainGlobals mg) (dk : Every DefOk D.L) {g : Mi.G} (kin : Kin D K mg g) {i : Nat} {d : DR} (hi : D.L[i]? = some d) : TD g i d.nm d.st d.ps := by
  obtain ⟨k1, _, k3, k4, _⟩ := kin
  have hd := List.mem_of_getElem? hi
  obtain ⟨fd, F, e⟩ := fiOf_ok c hd
  refine ⟨_, fd, ?_, by rw [k1]; exact F, ?_, ?_⟩
  · rw [k4]
    show (D.L[i]?).bind (fiOf K) = _
    rw [hi]
    exact e
  · rw [k3]; exact He.glo_ok kx G (c.all.gl d hd)
  · rw [k1]; exact F.bindsN (dk.mem d hd).2
theorem free_of (c : SaysM D K) (kx : K.In h) (G : h.Ns mainGlobals mg) {x : Str} (hx : x ∈ D.fr) : mg x = none := He.free_ok kx G (c.all.fr x hx)
theorem gstr_of (c : SaysM D K) (kx : K.In h) (G : h.Ns mainGlobals mg) {g : Mi.G} (kin : Kin D K mg g) {x z : Str} (hx : (x, z) ∈ D.ss) : GStr g x z := by
  obtain ⟨t, e⟩ := He.str_ok kx G (c.all.ss _ hx)
  exact ⟨t, by rw [kin.2.2.1]; exact e⟩
theorem gtup_of (c : SaysM D K) (kx : K.In h) (G : h.Ns mainGlobals mg) {g : Mi.G} (kin : Kin D K mg g) {x : Str} {zs : List Str} (hx : (x, zs) ∈ D.ts) : GTup g x zs := by
  have h := c.all.ts _ hx
  unfold tupsB at h
  obtain ⟨h1, h2⟩ := ba h
  refine ⟨He.ga K x, by rw [kin.2.2.1]; exact He.glo_ok kx G h1, fun H => ?_⟩
  rw [kin.1]
  have e := He.tupB_ok h2 H
  rw [List.map_map] at e
  exact e
theorem exc_of {g : Mi.G} (kin : Kin D K mg g) {i : Nat} {e : ExI} (hi : D.xs[i]? = some e) : g.exc i = some (e.nm, e.fs.map txs) := by
  rw [kin.2.2.2.2]
  show (D.xs[i]?).map _ = _
  rw [hi]
  rfl
theorem kin_lvl {n : Nat} {lam : Store → CR} {bd : Nat → Option (Nat × MS)} : Kin D K mg ((lvl (gM D K mg) bd n).wl lam) := ⟨rfl, rfl, rfl, rfl, rfl⟩
/-- the text -/
theorem mkText {P : Program} {w : World} {base : Heap} (c : SaysM D K) (kx : K.In h) (G : h.Ns mainGlobals mg) (hfile : P.main.file = D.file) (hS : ("super" : Str) ∈ D.fr) (hT : (P.main.scope.names.lookup ("super" : Str)).isSome = false) (dk : Every DefOk D.L) (xk : Every ExOk D.xs) (bk : Every (BodyOk D K mg) D.L)
    (tb : ∀ p ∈ csM D K, LamX.TabB base mg p.1 p.2) : Text P w K mg base (gM D K mg) (bdM D) (dfM D) := by
  have at_ : ∀ {i : Nat} {fi : FnI}, (gM D K mg).tab i = some fi → ∃ d, D.L[i]? = some d ∧ fiOf K d = some fi := fun {i fi} e => by
    have e' : (D.L[i]?).bind (fiOf K) = some fi := e
    exact Option.bind_eq_some_iff.mp e'
  have both : ∀ {i : Nat} {fi : FnI} {t : DefT}, (gM D K mg).tab i = some fi → dfM D i = some t → ∃ d fd, D.L[i]? = some d ∧ d ∈ D.L ∧ FunD K d.nm d.nm (defArgs d.st) (defBody d.st) (defScope d.st) [] [] (He.ga K d.nm) fd ∧ fi = ⟨He.ga K d.nm, fd, d.ps, d.nm⟩ ∧ t = ⟨d.nm, defArgs d.st, defBody d.st, defScope d.st, d.N, d.m⟩ := fun {i fi t} e1 e2 => by
    obtain ⟨d, h1, h2⟩ := at_ e1
    have e2' : (D.L[i]?).map _ = some t := e2
    rw [h1] at e2'
    have hd := List.mem_of_getElem? h1
    obtain ⟨fd, F, e⟩ := fiOf_ok c hd
    rw [e] at h2
    exact ⟨d, fd, h1, hd, F, (Option.some.inj h2).symm, (Option.some.inj e2').symm⟩
  refine ⟨rfl, rfl, fun i fi e => ?_, fun i fi t e1 e2 => ?_, fun k nm fs e => ?_, fun k j a b e1 e2 => ?_, fun i fi t e1 e2 n lam X W gd fr ha => ?_⟩
  · obtain ⟨d, h1, h2⟩ := at_ e
    exact ⟨_, by show (D.L[i]?).map _ = _; rw [h1]; rfl⟩
  · obtain ⟨d, fd, h1, hd, F, rfl, rfl⟩ := both e1 e2
    refine ⟨F, (dk.mem d hd).1, ?_, He.glo_ok kx G (c.all.gl d hd), F.bindsN (dk.mem d hd).2⟩
    show (D.L[i]?).map _ = _
    rw [h1]
    rfl
  · have e' : (D.xs[k]?).map _ = some (nm, fs) := e
    cases q : D.xs[k]? with
    | none => rw [q] at e'; cases e'
    | some x =>
      rw [q] at e'
      cases e'
      have hx := List.mem_of_getElem? q
      obtain ⟨fd, F⟩ := c.exc (P := P) kx G hfile (free_of c kx G hS) hT hx
      have fs2 : (x.fs.map txs).map toStr = x.fs := by
        rw [List.map_map]
        exact (List.map_congr_left fun z _ => toStr_mk z).trans (List.map_id _)
      have cl : (gM D K mg).cls k = exC K x := by
        show (match D.xs[k]? with
          | some e => exC K e
          | none => 0) = _
        rw [q]
      rw [fs2, cl]
      obtain ⟨x1, x2⟩ := xk.mem x hx
      exact ⟨_, fd, F.raise x.self (fun cc cda I => x1 P w K mg base _ _ cc cda fd I F.nof) (F.binds x2)⟩
  · have e1' : (D.xs[k]?).map _ = some a := e1
    have e2' : (D.xs[j]?).map _ = some b := e2
    cases q1 : D.xs[k]? with
    | none => rw [q1] at e1'; cases e1'
    | some x =>
      cases q2 : D.xs[j]? with
      | none => rw [q2] at e2'; cases e2'
      | some y =>
        have c1 : (gM D K mg).cls k = exC K x := by
          show (match D.xs[k]? with
            | some e => exC K e
            | none => 0) = _
          rw [q1]
        have c2 : (gM D K mg).cls j = exC K y := by
          show (match D.xs[j]? with
            | some e => exC K e
            | none => 0) = _
          rw [q2]
        rw [c1, c2]
        exact exmB_at c.all.xm q1 q2
  · obtain ⟨d, fd, h1, hd, F, rfl, rfl⟩ := both e1 e2
    refine bk.mem d hd X W _ kin_lvl gd fr fun hla => ?_
    obtain ⟨hb, hq, oc, od, dV, kV, doc, pm, an, ct, osl, lk⟩ := ha
    have hm : d ∈ lamDs D := List.mem_filter.mpr ⟨hd, hla⟩
    have tbb := c.all.tb d hm
    have lk' := lk
    rw [show X.K = K from gd.K] at lk'
    replace lk' : K.lookup (He.ga K d.nm) = some ⟨oc, od, .func (PySem.W.fnOf d.nm d.nm (defArgs d.st) (defBody d.st) (defScope d.st) dV kV doc pm an X.env.code ct), osl⟩ := lk'
    unfold tbB at tbb
    rw [lk'] at tbb
    dsimp only at tbb
    cases ec : X.env.code with
    | ref cc =>
      rw [ec] at tbb lk'
      have eC : cdAt K d = cc := by unfold cdAt; rw [lk'] <;> rfl
      have hp : (cdAt K d, tbAt K d) ∈ csM D K := List.mem_map_of_mem hm
      refine ⟨cc, tbAt K d, ?_, ec, ?_, fun p hp2 e => ?_⟩
      · have z := tb _ hp
        rw [eC] at z
        rw [hb, show X.mg = mg from gd.mg]
        exact z
      · rw [hq]
        exact List.mem_map_of_mem hm
      · have tq := c.all.tq
        unfold tabB at tq
        have m2 : (tbAt K d, lamQ d) ∈ tabsM D K := List.mem_map_of_mem hm
        have z := List.all_eq_true.mp (List.all_eq_true.mp tq p hp2) _ m2
        rw [e] at z
        have z2 : p.2 = lamQ d := by simpa using z
        rw [hq, z2]
        rfl
    | _ => rw [ec] at tbb; cases tbb
end
end Mi
namespace Mi
open PySem PySem.Spec L2
/-- a body that no one calls by itself -/
def sBad : MS := fun _ _ _ => .bad
theorem snd_sbad {X : Cx} {W : WX} {g : G} {ss : List Stmt} : PSs X ss (tS g W sBad) := ⟨fun pins s σ H D I ⟨B, F, r, f, S, sr, h⟩ => (show False from h).elim⟩
/-- the defs one by one -/
theorem Every.of {α : Type} {p : α → Prop} {as : List α} (h : ∀ a ∈ as, p a) : Every p as := by
  induction as with
  | nil => exact .nil
  | cons a as ih => exact .cons (h a List.mem_cons_self) (ih fun b hb => h b (List.mem_cons_of_mem _ hb))
end Mi
set_option Elab.async false
set_option linter.all false
set_option maxRecDepth 100000
set_option maxHeartbeats 1000000
/-! Mi, part 34: the law's call. -/
namespace Mi
open PySem PySem.Spec PyProof.Rows L2
/-- the state when the law is called with the script at a -/
theorem start_sp {D : HD} {K : PySem.W.Frag} {mg : Str → Option Value} {n i : Nat} {a : Addr} {ns : List Int} {H : Hp} (hH : ∀ p ∈ csM D K, H p.2 = some (.tbl #[])) (hS : SqL K H a (ns.map V.int))
    (law : ∃ fr S, callM (bdM D) n i [.val (.scr ns)] (fun _ => .bad) [] = .rt (.bl true) fr S) : spM (lvl (gM D K mg) (bdM D) n) 1 i [.ref a] H (fun v _ => v = .bl true) (fun _ _ _ => False) := by
  have tabs : LamX.Tabs (tabsM D K) H := fun p hp => by
    obtain ⟨d, hd, rfl⟩ := List.mem_map.mp hp
    exact LamX.TabS.nil (hH (cdAt K d, tbAt K d) (List.mem_map_of_mem hd))
  have noT : ∀ {u : HO}, H a = some u → isTbl u = false → ∀ p ∈ tabsM D K, p.1 ≠ a := fun {u} hu ht p hp e => by
    obtain ⟨d, hd, rfl⟩ := List.mem_map.mp hp
    have z := hH (cdAt K d, tbAt K d) (List.mem_map_of_mem hd)
    rw [show (cdAt K d, tbAt K d).2 = a from e, hu] at z
    cases z
    cases ht
  have fin : ∀ {F : Hp}, E1 (lvl (gM D K mg) (bdM D) n) F [] [] H → SqL K F a (ns.map V.int) → spM (lvl (gM D K mg) (bdM D) n) 1 i [.ref a] H (fun v _ => v = .bl true) (fun _ _ _ => False) := fun {F} e sq => by
    refine ⟨rfl, F, [], [], [.scr ns], fun _ => .bad, e, .cons (.scr sq) .nil, ?_⟩
    obtain ⟨fr, S, law⟩ := law
    show RunC _ _ (callM (bdM D) n i [.val (.scr ns)] (fun _ => .bad) []) _ _
    rw [law]
    intro F' r' H' v e1 si rx
    unfold RXc at rx
    split at rx
    · obtain ⟨b, _, z, _⟩ := rx
      exact z.elim
    · cases rx
      rfl
  rcases hS with hS | hS
  · obtain ⟨u, hu, hf, ht⟩ : ∃ u, H a = some u ∧ Fro u ∧ isTbl u = false := by
      rcases hS with z | ⟨o, z⟩
      · exact ⟨_, z, trivial, rfl⟩
      · exact ⟨_, z, trivial, rfl⟩
    refine fin (F := fun b => if b = a then H b else none) ⟨fun b w e => ?_, fun b w e => ?_, rfl, fun i o b e => (nomatch e), List.nodup_nil, fun b hb => (nomatch hb), tabs, fun p hp => if_neg (noT hu ht p hp), fun p hp => (fun z => nomatch z)⟩ (.inl ?_)
    · by_cases hb : b = a
      · rw [if_pos hb] at e; exact .inl e
      · rw [if_neg hb] at e; cases e
    · by_cases hb : b = a
      · rw [if_pos hb, hb, hu] at e
        cases e
        exact hf
      · rw [if_neg hb] at e; cases e
    · have e : (fun b => if b = a then H b else none) a = H a := if_pos rfl
      unfold Rd
      rw [e]
      exact hS
  · exact fin (F := fun _ => none) ⟨fun b w e => (nomatch e), fun b w e => (nomatch e), rfl, fun i o b e => (nomatch e), List.nodup_nil, fun b hb => (nomatch hb), tabs, fun p hp => rfl, fun p hp => (fun z => nomatch z)⟩ (.inr hS)
theorem walkM {l : PySem.W.OpenLaw} {q : Program} {loose : List Str} {XP : (Str → Option Value) → Heap → Prop} {d : DefRec} {D : HD} {nmax n i hk : Nat} {dr : DR} {x : Str} (hn : l.most = some nmax) (hn2 : nmax ≤ sizeLine) (hdf : d.params.defaults = []) (hr : Room (n + 2) callerA)
    (hi : D.L[i]? = some dr) (hnm : d.name = dr.nm) (hps : dr.ps = [x]) (hrec : ∀ e ∈ D.L, e.la = true → ((recsOf q).any fun r => r.name == e.nm) = true) (hfile : l.prog.main.file = D.file) (hS : ("super" : Str) ∈ D.fr) (hT : (l.prog.main.scope.names.lookup ("super" : Str)).isSome = false)
    (dk : Every DefOk D.L) (xk : Every ExOk D.xs) (bk : ∀ (K : PySem.W.Frag) (mg : Str → Option Value) (h : Heap), K.In h → h.Ns mainGlobals mg → SaysM D K → Every (BodyOk D K mg) D.L)
    (law : ∀ ns : List Int, ns.length ≤ nmax → (∀ z ∈ ns, Builtin.Int.intBits z ≤ 1048576) → ∃ fr S, callM (bdM D) n i [.val (.scr ns)] (fun _ => .bad) [] = .rt (.bl true) fr S) :
    PySem.W.WalkO q loose XP (hookM hk D).says l.row.toRowW d [] (fun f vs => PySem.call f vs) := by
  refine Att.attach_callB hn hdf fun w s₀ s₁ mg mb fa o pm cd doc a vs ns G Y ho hd hcd hmg hobj hints hlen hbits hg => ?_
  obtain ⟨K, kx, c⟩ := Y
  have hdm := List.mem_of_getElem? hi
  obtain ⟨fd, F, e⟩ := fiOf_ok c hdm
  have ht : (gM D K mg).tab i = some ⟨He.ga K dr.nm, fd, dr.ps, dr.nm⟩ := by
    show (D.L[i]?).bind (fiOf K) = _
    rw [hi]
    exact e
  have efa : fa = He.ga K dr.nm := by
    have z := He.glo_ok kx G.T.g (c.all.gl dr hdm)
    rw [← hnm, hmg] at z
    rw [hnm] at z
    cases z
    rfl
  subst efa
  have tb : ∀ e ∈ lamDs D, (s₁.heap.get? (tbAt K e) = some { cls := .none, data := .fields #[] }) ∧ K.lookup (tbAt K e) = none ∧ PySem.W.CodeHd s₁.heap (cdAt K e) (tbAt K e) := fun e he => by
    obtain ⟨hem, hla⟩ := List.mem_filter.mp he
    obtain ⟨dq, hq1, hq2⟩ := List.any_eq_true.mp (hrec e hem hla)
    have hq3 : dq.name = e.nm := beq_iff_eq.mp hq2
    obtain ⟨a', o', fd', c', P', k1, k2, k3, k4, k5, k6⟩ := G.T.tab dq hq1
    have z := He.glo_ok kx G.T.g (c.all.gl e hem)
    rw [hq3, z] at k1
    cases k1
    have tbb := c.all.tb e he
    have ec : cdAt K e = c' ∧ tbAt K e = P' := by
      unfold tbB at tbb
      cases lk : K.lookup (He.ga K e.nm) with
      | none => rw [lk] at tbb; cases tbb
      | some o1 =>
        have g1 := kx _ _ lk
        rw [k2] at g1
        cases g1
        obtain ⟨oc, od, dt, osl⟩ := o'
        have k3' : dt = .func fd' := k3
        subst k3'
        rw [lk] at tbb
        dsimp only at tbb
        rw [k4] at tbb
        dsimp only at tbb
        have e1 : cdAt K e = c' := by
          unfold cdAt
          rw [lk]
          dsimp only
          rw [k4]
        refine ⟨e1, ?_⟩
        cases lc : K.lookup c' with
        | none => rw [lc] at tbb; cases tbb
        | some oc2 =>
          have g2 := kx _ _ lc
          obtain ⟨⟨o3, vs3, f1, f2, f3, f4⟩, _⟩ := k6
          rw [g2] at f1
          cases f1
          obtain ⟨c1, c2, c3, c4⟩ := oc2
          have f3' : c3 = .fields vs3 := f3
          subst f3'
          unfold tbAt
          rw [e1, lc]
          dsimp only
          rw [f4]
    obtain ⟨e1, e2⟩ := ec
    rw [e1, e2]
    have hP : s₁.heap.get? P' = some { cls := .none, data := .fields #[] } := k6.2
    refine ⟨hP, ?_, .of k5 k6⟩
    cases lk : K.lookup P' with
    | none => rfl
    | some o2 =>
      have g2 := kx _ _ lk
      rw [hP] at g2
      have nt := c.nt _ _ lk
      rw [← g2] at nt
      cases nt
  have hb1 : BindsTo s₁ fd ⟨[.ref a], []⟩ (dr.ps.zip [.ref a]) := by
    have z := F.bindsA (dk.mem dr hdm).2 s₁ [.ref a] (by rw [hps]; rfl)
    exact z
  refine lawG (fi := ⟨He.ga K dr.nm, fd, dr.ps, dr.nm⟩) (cs := csM D K) (k := n + 2) (sp := spM (lvl (gM D K mg) (bdM D) n) dr.ps.length i) kx G.T.g G.T.b G.T.builtins G.T.nolimit hg ?_ ?_ ?_ G.T.bmain hobj hints (Nat.le_trans hlen hn2) hr (fun base kb Gb tbs => ?_) hb1 fun H hH hSq => ?_
  · intro p hp
    obtain ⟨e, he, rfl⟩ := List.mem_map.mp hp
    exact (tb e he).1
  · intro p hp
    obtain ⟨e, he, rfl⟩ := List.mem_map.mp hp
    exact (tb e he).2.1
  · intro p hp
    obtain ⟨e, he, rfl⟩ := List.mem_map.mp hp
    exact (tb e he).2.2
  · exact all_ok (mkText (P := l.prog) (w := w) (base := base) c kx G.T.g hfile hS hT dk xk (bk K mg _ kx G.T.g c) tbs) n i _ ht
  · rw [hps]
    exact start_sp hH hSq (law ns hlen hbits)
end Mi
set_option Elab.async false
set_option linter.all false
set_option maxRecDepth 100000
/-! Mi, part 40: what is wanted of an evaluation, in plain Lean. -/
namespace Mi
open PySem
abbrev EX := Nat → List (Tx × D) → Fr → Store → Prop
def RW {α : Type} (r : R α) (Q : α → Fr → Store → Prop) (E : EX) : Prop := match r with
  | .ok a f S => Q a f S
  | .exc c fs f S => E c fs f S
  | .bad => False
def CW (r : CR) (Q : D → Bool → Store → Prop) (E : Nat → List (Tx × D) → Store → Prop) : Prop := match r with
  | .rt d fr S => Q d fr S
  | .exc c fs S => E c fs S
  | .bad => False
def SW (r : RS) (N : Fr → Store → Prop) (T : D → Bool → Fr → Store → Prop) (B K : Fr → Store → Prop) (E : EX) : Prop := match r with
  | .nx f S => N f S
  | .rt d fr f S => T d fr f S
  | .bk f S => B f S
  | .ct f S => K f S
  | .exc c fs f S => E c fs f S
  | .bad => False
def OW {α : Type} (o : Option α) (Q : α → Prop) : Prop := match o with
  | some a => Q a
  | none => False
theorem OW.some {α : Type} {o : Option α} {a : α} {Q : α → Prop} (h : o = .some a) (q : Q a) : OW o Q := by rw [h]; exact q
theorem OW.elim {α : Type} {o : Option α} {Q : α → Prop} (h : OW o Q) : ∃ a, o = .some a ∧ Q a := by
  cases o with
  | none => exact False.elim h
  | some a => exact ⟨a, rfl, h⟩
theorem RW.mono {α : Type} {r : R α} {Q Q' : α → Fr → Store → Prop} {E E' : EX} (h : RW r Q E) (q : ∀ a f S, Q a f S → Q' a f S) (e : ∀ c fs f S, E c fs f S → E' c fs f S) : RW r Q' E' := by
  cases r with
  | ok a f S => exact q _ _ _ h
  | exc c fs f S => exact e _ _ _ _ h
  | bad => exact h
theorem CW.mono {r : CR} {Q Q' : D → Bool → Store → Prop} {E E' : Nat → List (Tx × D) → Store → Prop} (h : CW r Q E) (q : ∀ a f S, Q a f S → Q' a f S) (e : ∀ c fs S, E c fs S → E' c fs S) : CW r Q' E' := by
  cases r with
  | rt a f S => exact q _ _ _ h
  | exc c fs S => exact e _ _ _ h
  | bad => exact h
theorem SW.mono {r : RS} {N N' : Fr → Store → Prop} {T T' : D → Bool → Fr → Store → Prop} {B B' K K' : Fr → Store → Prop} {E E' : EX} (h : SW r N T B K E) (n : ∀ f S, N f S → N' f S) (t : ∀ d b f S, T d b f S → T' d b f S) (b : ∀ f S, B f S → B' f S) (k : ∀ f S, K f S → K' f S) (e : ∀ c fs f S, E c fs f S → E' c fs f S) : SW r N' T' B' K' E' := by
  cases r with
  | nx f S => exact n _ _ h
  | rt d fr f S => exact t _ _ _ _ h
  | bk f S => exact b _ _ h
  | ct f S => exact k _ _ h
  | exc c fs f S => exact e _ _ _ _ h
  | bad => exact h
theorem CW.eq {r : CR} {d : D} {b : Bool} {S : Store} {Q : D → Bool → Store → Prop} {E : Nat → List (Tx × D) → Store → Prop} (h : r = .rt d b S) (q : Q d b S) : CW r Q E := by rw [h]; exact q
theorem CW.rt {r : CR} {Q : D → Bool → Store → Prop} (h : CW r Q fun _ _ _ => False) : ∃ d b S, r = .rt d b S ∧ Q d b S := by
  cases r with
  | rt d b S => exact ⟨d, b, S, rfl, h⟩
  | exc c fs S => exact h.elim
  | bad => exact h.elim
/-- a frame, to be written out -/
def SetW (f : Fr) (Q : Fr → Prop) : Prop := Q f
theorem setI {f f' : Fr} {Q : Fr → Prop} (e : f = f') (h : Q f') : SetW f Q := by subst e; exact h
theorem slOf_f {d : D} : slOf (d, false) = .val d := rfl
theorem slOf_t {d : D} : slOf (d, true) = .own d := rfl
def ite_i {c : Bool} {a b : Prop} (h1 : c = true → a) (h2 : c = false → b) : if c = true then a else b := by
  cases c with
  | true => exact h1 rfl
  | false => exact h2 rfl
section
variable {α β : Type} {C : Ctx} {f : Fr} {S : Store} {E : EX}
theorem w_if {A : Type} {c : Bool} {x y : R α} {Q : α → Fr → Store → Prop} (h : if c = true then RW x Q E else RW y Q E) : RW (if c = true then x else y) Q E := by cases c <;> exact h
theorem R.bindW {r : R α} {k : α → Fr → Store → R β} {Q : β → Fr → Store → Prop} (h : RW r (fun a f S => RW (k a f S) Q E) E) : RW (r.bind k) Q E := by cases r <;> exact h
theorem w_bind {m : M α} {k : α → M β} {Q : β → Fr → Store → Prop} (h : RW (m C f S) (fun a f S => RW (k a C f S) Q E) E) : RW (mBind m k C f S) Q E := R.bindW h
theorem w_pure {a : α} {Q : α → Fr → Store → Prop} (h : Q a f S) : RW (mPure a C f S) Q E := h
theorem w_opt {o : Option α} {Q : α → Fr → Store → Prop} (h : OW o fun a => Q a f S) : RW (mOpt o C f S) Q E := by
  unfold mOpt
  cases o <;> exact h
theorem w_c {d : D} {Q : D → Fr → Store → Prop} (h : Q d f S) : RW (mC d C f S) Q E := h
theorem w_fz {m : M DX} {Q : D → Fr → Store → Prop} (h : RW (m C f S) (fun d f S => Q d.1 f S) E) : RW (mFz m C f S) Q E := w_bind h
theorem w_vl {m : M D} {Q : DX → Fr → Store → Prop} (h : RW (m C f S) (fun d f S => Q (d, false) f S) E) : RW (mVl m C f S) Q E := w_bind h
theorem w_var {k : Nat} {d : D} {Q : D → Fr → Store → Prop} (e : f[k]? = some (.val d)) (h : Q d f S) : RW (mVar k C f S) Q E := by unfold mVar; rw [e]; exact h
theorem w_varO {k : Nat} {d : D} {Q : D → Fr → Store → Prop} (e : f[k]? = some (.own d)) (h : SetW (f.set k (.val d)) fun f => Q d f S) : RW (mVar k C f S) Q E := by unfold mVar; rw [e]; exact h
/-! ### operands -/
theorem w_ops {k : Nat} {d : D} {Q : Nat ⊕ D → Fr → Store → Prop} (e : peek f k = some d) (h : Q (.inl k) f S) : RW (opE (.s k) C f S) Q E := by
  show RW (match peek f k with
    | some _ => R.ok (.inl k) f S
    | none => .bad) Q E
  rw [e]
  exact h
theorem w_ope {m : M D} {Q : Nat ⊕ D → Fr → Store → Prop} (h : RW (m C f S) (fun d f S => Q (.inr d) f S) E) : RW (opE (.e m) C f S) Q E := w_bind h
theorem w_at1 {g : Store → D → Option α} {x : Nat ⊕ D} {d : D} {Q : α → Fr → Store → Prop} (e : opR f x = some d) (h : OW (g S d) fun r => Q r f S) : RW (at1 g x C f S) Q E := by
  obtain ⟨r, h1, h2⟩ := h.elim
  unfold at1
  rw [e]
  dsimp only
  rw [h1]
  exact h2
theorem w_at2 {g : Store → D → D → Option α} {x y : Nat ⊕ D} {d e : D} {Q : α → Fr → Store → Prop} (e1 : opR f x = some d) (e2 : opR f y = some e) (h : OW (g S d e) fun r => Q r f S) : RW (at2 g x y C f S) Q E := by
  obtain ⟨r, h1, h2⟩ := h.elim
  unfold at2
  rw [e1, e2]
  dsimp only
  rw [h1]
  exact h2
theorem w_un {g : Store → D → Option α} {a : Op} {Q : α → Fr → Store → Prop} (h : RW (opE a C f S) (fun x f S => RW (at1 g x C f S) Q E) E) : RW (mUn g a C f S) Q E := w_bind h
theorem w_bin {g : Store → D → D → Option α} {a b : Op} {Q : α → Fr → Store → Prop} (h : RW (opE a C f S) (fun x f S => RW (opE b C f S) (fun y f S => RW (at2 g x y C f S) Q E) E) E) : RW (mBin g a b C f S) Q E :=
  w_bind (h.mono (fun _ _ _ z => w_bind z) fun _ _ _ _ z => z)
theorem w_all0 {Q : List D → Fr → Store → Prop} (h : Q [] f S) : RW (mAll [] C f S) Q E := h
theorem w_all1 {m : M D} {ms : List (M D)} {Q : List D → Fr → Store → Prop} (h : RW (m C f S) (fun d f S => RW (mAll ms C f S) (fun ds f S => Q (d :: ds) f S) E) E) : RW (mAll (m :: ms) C f S) Q E :=
  w_bind (h.mono (fun _ _ _ z => w_bind z) fun _ _ _ _ z => z)
theorem w_tup {ms : List (M D)} {Q : DX → Fr → Store → Prop} (h : RW (mAll ms C f S) (fun ds f S => ds.length ≤ LIM ∧ Q (.tup ds, false) f S) E) : RW (mTup ms C f S) Q E :=
  w_bind (h.mono (fun ds _ _ z => by rw [if_pos z.1]; exact z.2) fun _ _ _ _ z => z)
theorem w_lst {ms : List (M D)} {Q : DX → Fr → Store → Prop} (h : RW (mAll ms C f S) (fun ds f S => ds.length ≤ LIM ∧ Q (.lst ds, true) f S) E) : RW (mLst ms C f S) Q E :=
  w_bind (h.mono (fun ds _ _ z => by rw [if_pos z.1]; exact z.2) fun _ _ _ _ z => z)
theorem w_lstS {ms : List (M D)} {Q : DX → Fr → Store → Prop} (h : RW (mAll ms C f S) (fun ds f S => ds.length ≤ LIM ∧ Q (.ref S.length, false) f (S ++ [.lst ds])) E) : RW (mLstS ms C f S) Q E :=
  w_bind (h.mono (fun ds _ _ z => by rw [if_pos z.1]; exact z.2) fun _ _ _ _ z => z)
/-! ### tests -/
theorem w_truth {a : Op} {Q : Bool → Fr → Store → Prop} (h : RW (opE a C f S) (fun x f S => RW (at1 truth x C f S) Q E) E) : RW (mTruth a C f S) Q E := w_un h
theorem w_chain {g h' : Store → D → D → Option Bool} {a b c : Op} {Q : Bool → Fr → Store → Prop} (h : RW (opE a C f S) (fun x f S => RW (opE b C f S) (fun y f S => RW (at2 g x y C f S) (fun k f S => if k = true then RW (opE c C f S) (fun z f S => RW (at2 h' y z C f S) Q E) E else Q false f S) E) E) E) : RW (mChain g h' a b c C f S) Q E := by
  refine w_bind (h.mono (fun x _ _ z => w_bind (z.mono (fun y _ _ z => w_bind (z.mono (fun k _ _ z => ?_) fun _ _ _ _ z => z)) fun _ _ _ _ z => z)) fun _ _ _ _ z => z)
  cases k with
  | true => exact w_bind z
  | false => exact z
theorem w_not {t : M Bool} {Q : Bool → Fr → Store → Prop} (h : RW (t C f S) (fun b f S => Q (!b) f S) E) : RW (mNot t C f S) Q E := w_bind h
theorem w_and {t u : M Bool} {Q : Bool → Fr → Store → Prop} (h : RW (t C f S) (fun b f S => if b = true then RW (u C f S) Q E else Q false f S) E) : RW (mAnd t u C f S) Q E :=
  w_bind (h.mono (fun b _ _ z => by cases b <;> exact z) fun _ _ _ _ z => z)
theorem w_or {t u : M Bool} {Q : Bool → Fr → Store → Prop} (h : RW (t C f S) (fun b f S => if b = true then Q true f S else RW (u C f S) Q E) E) : RW (mOr t u C f S) Q E :=
  w_bind (h.mono (fun b _ _ z => by cases b <;> exact z) fun _ _ _ _ z => z)
theorem w_bl {t : M Bool} {Q : D → Fr → Store → Prop} (h : RW (t C f S) (fun b f S => Q (.bl b) f S) E) : RW (mBl t C f S) Q E := w_bind h
theorem w_ife {t : M Bool} {a b : M α} {Q : α → Fr → Store → Prop} (h : RW (t C f S) (fun c f S => if c = true then RW (a C f S) Q E else RW (b C f S) Q E) E) : RW (mIf t a b C f S) Q E :=
  w_bind (h.mono (fun b _ _ z => by cases b <;> exact z) fun _ _ _ _ z => z)
theorem w_tru {d : D} {Q : Bool → Fr → Store → Prop} (h : OW (truth S d) fun k => Q k f S) : RW (mTru d C f S) Q E := by
  obtain ⟨r, h1, h2⟩ := h.elim
  show RW (match truth S d with
    | some k => R.ok k f S
    | none => .bad) Q E
  rw [h1]
  exact h2
theorem w_orV {a b : M D} {Q : D → Fr → Store → Prop} (h : RW (a C f S) (fun d f S => OW (truth S d) fun k => if k = true then Q d f S else RW (b C f S) Q E) E) : RW (mOrV a b C f S) Q E := by
  refine w_bind (h.mono (fun d f S z => ?_) fun _ _ _ _ z => z)
  obtain ⟨k, h1, h2⟩ := z.elim
  refine w_bind (w_tru (.some h1 ?_))
  cases k <;> exact h2
theorem w_andV {a b : M D} {Q : D → Fr → Store → Prop} (h : RW (a C f S) (fun d f S => OW (truth S d) fun k => if k = true then RW (b C f S) Q E else Q d f S) E) : RW (mAndV a b C f S) Q E := by
  refine w_bind (h.mono (fun d f S z => ?_) fun _ _ _ _ z => z)
  obtain ⟨k, h1, h2⟩ := z.elim
  refine w_bind (w_tru (.some h1 ?_))
  cases k <;> exact h2
theorem w_notV {a : M D} {Q : D → Fr → Store → Prop} (h : RW (a C f S) (fun d f S => OW (truth S d) fun k => Q (.bl !k) f S) E) : RW (mNotV a C f S) Q E := by
  refine w_bind (h.mono (fun d f S z => ?_) fun _ _ _ _ z => z)
  obtain ⟨k, h1, h2⟩ := z.elim
  exact w_bind (w_tru (.some h1 h2))
/-! ### slices, dicts, methods -/
theorem w_part {m : M D} {Q : Option Int → Fr → Store → Prop} (h : RW (m C f S) (fun d f S => OW (match d with
  | .int i => some i
  | _ => none : Option Int) fun i => Q (some i) f S) E) : RW (mPart m C f S) Q E := by
  refine w_bind (h.mono (fun d f S z => ?_) fun _ _ _ _ z => z)
  cases d <;> first | exact False.elim z | exact z
theorem w_nopart {Q : Option Int → Fr → Store → Prop} (h : Q none f S) : RW (mNoPart C f S) Q E := h
theorem w_cut {a : Op} {lo hi : M (Option Int)} {Q : DX → Fr → Store → Prop} (h : RW (opE a C f S) (fun x f S => RW (lo C f S) (fun l f S => RW (hi C f S) (fun u f S => RW (at1 (fun S d => pCut S l u d) x C f S) Q E) E) E) E) : RW (mCut a lo hi C f S) Q E :=
  w_bind (h.mono (fun x _ _ z => w_bind (z.mono (fun y _ _ z => w_bind z) fun _ _ _ _ z => z)) fun _ _ _ _ z => z)
theorem w_isD {x : Nat ⊕ D} {d : D} {Q : Unit → Fr → Store → Prop} (e : opR f x = some d) (h : OW (dctOf S d) fun _ => Q () f S) : RW (mGet.isD x C f S) Q E := by
  obtain ⟨r, h1, h2⟩ := h.elim
  unfold mGet.isD
  rw [e]
  dsimp only
  rw [h1]
  exact h2
theorem w_get {a k : Op} {z : M D} {Q : D → Fr → Store → Prop} (h : RW (opE a C f S) (fun x f S => RW (mGet.isD x C f S) (fun _ f S => RW (opE k C f S) (fun y f S => RW (z C f S) (fun w f S => RW (at2 (getK w) x y C f S) Q E) E) E) E) E) : RW (mGet a k z C f S) Q E :=
  w_bind (h.mono (fun x _ _ z => w_bind (z.mono (fun y _ _ z => w_bind (z.mono (fun y _ _ z => w_bind z) fun _ _ _ _ z => z)) fun _ _ _ _ z => z)) fun _ _ _ _ z => z)
theorem w_isT {T : String} {x : Nat ⊕ D} {d : D} {Q : Unit → Fr → Store → Prop} (e : opR f x = some d) (k : kindIs T S d = true) (h : Q () f S) : RW (isT T x C f S) Q E := by
  unfold isT
  rw [e]
  dsimp only
  rw [if_pos k]
  exact h
theorem w_meth1 {T : String} {g : Store → D → D → Option α} {a b : Op} {Q : α → Fr → Store → Prop} (h : RW (opE a C f S) (fun x f S => RW (isT T x C f S) (fun _ f S => RW (opE b C f S) (fun y f S => RW (at2 g x y C f S) Q E) E) E) E) : RW (mMeth1 T g a b C f S) Q E :=
  w_bind (h.mono (fun x _ _ z => w_bind (z.mono (fun y _ _ z => w_bind z) fun _ _ _ _ z => z)) fun _ _ _ _ z => z)
theorem w_pairs0 {Q : List (D × D) → Fr → Store → Prop} (h : Q [] f S) : RW (mPairs [] C f S) Q E := h
theorem w_pairs1 {k v : M D} {r : List (M D × M D)} {Q : List (D × D) → Fr → Store → Prop} (h : RW (k C f S) (fun a f S => RW (v C f S) (fun b f S => RW (mPairs r C f S) (fun ps f S => Q ((a, b) :: ps) f S) E) E) E) : RW (mPairs ((k, v) :: r) C f S) Q E :=
  w_bind (h.mono (fun x _ _ z => w_bind (z.mono (fun y _ _ z => w_bind z) fun _ _ _ _ z => z)) fun _ _ _ _ z => z)
theorem w_dct {kvs : List (M D × M D)} {Q : DX → Fr → Store → Prop} (h : RW (mPairs kvs C f S) (fun ps f S => OW (keyed asKy ps) fun kvs => kvs.length ≤ 15 ∧ Q (.dct (mergeKy [] kvs), true) f S) E) : RW (mDct kvs C f S) Q E := by
  refine w_bind (h.mono (fun ps f S z => ?_) fun _ _ _ _ z => z)
  obtain ⟨kvs, h1, h2, h3⟩ := z.elim
  unfold dctK
  rw [h1]
  dsimp only
  rw [if_pos h2]
  exact h3
theorem w_mut {L : Bool} {k : Nat} {ms : List (M D)} {h' : SO → List D → Option (SO × D)} {o : SO} {Q : D → Fr → Store → Prop} (e : obj f S k = some o) (eL : o.isL = L) (h : RW (mAll ms C f S) (fun ds f S => OW (obj f S k) fun o => OW (h' o ds) fun r => Q r.2 (upF f k r.1) (upS f S k r.1)) E) : RW (mMut L k ms h' C f S) Q E := by
  unfold mMut
  rw [e]
  dsimp only
  rw [if_pos eL]
  refine w_bind (h.mono (fun ds f S z => ?_) fun _ _ _ _ z => z)
  obtain ⟨o, h1, z⟩ := z.elim
  obtain ⟨⟨o', d⟩, h2, z⟩ := z.elim
  unfold mutK
  rw [h1]
  dsimp only
  rw [h2]
  exact z
/-! ### calls -/
theorem CW.thenR {r : CR} {Q : DX → Fr → Store → Prop} (h : CW r (fun d b S => Q (d, b) f S) fun c fs S => E c fs f S) : RW (r.thenR f) Q E := by cases r <;> exact h
theorem w_call {i : Nat} {ms : List (M D)} {Q : DX → Fr → Store → Prop} (h : RW (mAll ms C f S) (fun ds f S => CW (C.call i (ds.map .val) C.lam S) (fun d b S => Q (d, b) f S) fun c fs S => E c fs f S) E) : RW (mCall i ms C f S) Q E :=
  w_bind (h.mono (fun ds _ _ z => CW.thenR z) fun _ _ _ _ z => z)
theorem w_callK {i : Nat} {perm : List Nat} {ms ks : List (M D)} {Q : DX → Fr → Store → Prop} (h : RW (mAll ms C f S) (fun ds f S => RW (mAll ks C f S) (fun es f S => CW (C.call i ((pm perm (ds ++ es)).map .val) C.lam S) (fun d b S => Q (d, b) f S) fun c fs S => E c fs f S) E) E) : RW (mCallK i perm ms ks C f S) Q E :=
  w_bind (h.mono (fun ds _ _ z => w_bind (z.mono (fun _ _ _ z => CW.thenR z) fun _ _ _ _ z => z)) fun _ _ _ _ z => z)
theorem w_lam {Q : DX → Fr → Store → Prop} (e : isLam f[0]? = true) (h : CW (C.lam S) (fun d b S => Q (d, b) f S) fun c fs S => E c fs f S) : RW (mLam C f S) Q E := by
  unfold mLam
  rw [if_pos e]
  exact CW.thenR h
theorem w_lamCall {n : Nat} {mb : MS} {lb : M DX} {Q : DX → Fr → Store → Prop} (hd : 2 ≤ C.dep) (h : SW (mb ⟨badC, lamFn C lb f, 0, badC⟩ (frame n [Sl.lam]) S) (fun _ S => Q (.non, false) f S) (fun d b _ S => Q (d, b) f S) (fun _ _ => False) (fun _ _ => False) fun c fs _ S => E c fs f S) : RW (mLamCall n mb lb C f S) Q E := by
  unfold mLamCall
  rw [if_neg (by omega)]
  revert h
  cases mb ⟨badC, lamFn C lb f, 0, badC⟩ (frame n [Sl.lam]) S <;> exact fun h => h
/-- the lambda's own body -/
theorem w_lamFn {lb : M DX} {Q : D → Bool → Store → Prop} {EE : Nat → List (Tx × D) → Store → Prop} (h : RW (lb ⟨C.lo, fun _ => .bad, 0, badC⟩ (seen f) S) (fun d _ S => Q d.1 d.2 S) fun c fs _ S => EE c fs S) : CW (lamFn C lb f S) Q EE := by
  unfold lamFn
  revert h
  cases lb ⟨C.lo, fun _ => .bad, 0, badC⟩ (seen f) S <;> exact fun h => h
theorem w_ex {k : Nat} {n : Tx} {fs : List (Tx × D)} {d : D} {Q : D → Fr → Store → Prop} (e : f[k]? = some (.ex fs)) (e2 : fs.lookup n = some d) (h : Q d f S) : RW (mEx k n C f S) Q E := by
  unfold mEx
  rw [e]
  dsimp only
  rw [e2]
  exact h
/-! ### statements -/
variable {N : Fr → Store → Prop} {T : D → Bool → Fr → Store → Prop} {B K : Fr → Store → Prop}
theorem RW.thenS {r : R α} {k : α → Fr → Store → RS} (h : RW r (fun a f S => SW (k a f S) N T B K E) E) : SW (r.thenS k) N T B K E := by cases r <;> exact h
theorem s_nx (h : N f S) : SW (sNx C f S) N T B K E := h
theorem s_bk (h : B f S) : SW (sBk C f S) N T B K E := h
theorem s_ct (h : K f S) : SW (sCt C f S) N T B K E := h
theorem s_seq {a b : MS} (h : SW (a C f S) (fun f S => SW (b C f S) N T B K E) T B K E) : SW (sSeq a b C f S) N T B K E := by
  unfold sSeq
  revert h
  cases a C f S <;> exact fun h => h
theorem s_drop {m : M α} (h : RW (m C f S) (fun _ f S => N f S) E) : SW (sDrop m C f S) N T B K E := RW.thenS h
theorem s_ret {m : M DX} (h : RW (m C f S) (fun d f S => T d.1 d.2 f S) E) : SW (sRet m C f S) N T B K E := RW.thenS h
theorem s_retV {k : Nat} {d : D} (e : f[k]? = some (.val d)) (h : T d false f S) : SW (sRetV k C f S) N T B K E := by unfold sRetV; rw [e]; exact h
theorem s_retO {k : Nat} {d : D} (e : f[k]? = some (.own d)) (h : T d true (f.set k .un) S) : SW (sRetV k C f S) N T B K E := by unfold sRetV; rw [e]; exact h
theorem s_retN (h : T .non false f S) : SW (sRetN C f S) N T B K E := h
theorem s_if {t : M Bool} {a b : MS} (h : RW (t C f S) (fun k f S => if k = true then SW (a C f S) N T B K E else SW (b C f S) N T B K E) E) : SW (sIf t a b C f S) N T B K E :=
  RW.thenS (h.mono (fun k _ _ z => by cases k <;> exact z) fun _ _ _ _ z => z)
theorem s_set {k : Nat} {m : M DX} (h : RW (m C f S) (fun d f S => SetW (f.set k (slOf d)) fun f => N f S) E) : SW (sSet k m C f S) N T B K E := RW.thenS h
theorem s_raise {c : Nat} {fs : List Tx} {ms : List (M D)} (h : RW (mAll ms C f S) (fun ds f S => E c (fs.zip ds).reverse f S) E) : SW (sRaise c fs ms C f S) N T B K E := RW.thenS h
theorem s_par {i j : Nat} {m n : M DX} (h : RW (m C f S) (fun d f S => RW (n C f S) (fun e f S => SetW ((f.set i (slOf d)).set j (slOf e)) fun f => N f S) E) E) : SW (sPar i j m n C f S) N T B K E :=
  RW.thenS (h.mono (fun _ _ _ z => RW.thenS z) fun _ _ _ _ z => z)
theorem s_tup {t : Tg} {m : M D} (h : RW (m C f S) (fun d f S => OW (t.put d f) fun f' => N f' S) E) : SW (sTup t m C f S) N T B K E :=
  RW.thenS (h.mono (fun _ _ _ z => by obtain ⟨f', h1, h2⟩ := z.elim; rw [h1]; exact h2) fun _ _ _ _ z => z)
theorem s_put {k : Nat} {oi : Op} {m : M D} {h' : SO → D → D → Option SO} (h : RW (m C f S) (fun d f S => (∃ e, peek f k = some e) ∧ RW (opE oi C f S) (fun x f S => OW (opR f x) fun i => OW (obj f S k) fun o => OW (h' o i d) fun o' => N (upF f k o') (upS f S k o')) E) E) : SW (sPut k oi m h' C f S) N T B K E := by
  refine RW.thenS (h.mono (fun d f S ⟨⟨e, h1⟩, z⟩ => ?_) fun _ _ _ _ z => z)
  rw [h1]
  dsimp only
  refine RW.thenS (z.mono (fun x f S z => ?_) fun _ _ _ _ z => z)
  obtain ⟨i, h1, z⟩ := z.elim
  obtain ⟨o, h2, z⟩ := z.elim
  obtain ⟨o', h3, z⟩ := z.elim
  rw [h1, h2]
  dsimp only
  rw [h3]
  exact z
/-- a loop: what holds behind the first items -/
theorem w_loop {t : Tg} {body : MS} {ds : List D} (I : List D → List D → Fr → Store → Prop) (h0 : I [] ds f S)
    (step : ∀ pre d post f S, ds = pre ++ d :: post → I pre (d :: post) f S → OW (t.put d f) fun f' => SW (body C f' S) (fun f S => I (pre ++ [d]) post f S) T N (fun f S => I (pre ++ [d]) post f S) E)
    (fin : ∀ f S, I ds [] f S → N f S) : SW (loop t body C ds f S) N T B K E := by
  have key : ∀ (post pre : List D) (f : Fr) (S : Store), ds = pre ++ post → I pre post f S → SW (loop t body C post f S) N T B K E := by
    intro post
    induction post with
    | nil => intro pre f S e h; rw [List.append_nil] at e; subst e; exact fin f S h
    | cons d post ih =>
      intro pre f S e h
      obtain ⟨f', h1, h2⟩ := (step pre d post f S e h).elim
      have e2 : ds = (pre ++ [d]) ++ post := by rw [e]; simp
      unfold loop
      rw [h1]
      dsimp only
      revert h2
      cases body C f' S with
      | nx f S => exact fun h2 => ih _ _ _ e2 h2
      | ct f S => exact fun h2 => ih _ _ _ e2 h2
      | bk f S => exact fun h2 => h2
      | rt d fr f S => exact fun h2 => h2
      | exc c fs f S => exact fun h2 => h2
      | bad => exact fun h2 => h2
  exact key ds [] f S rfl h0
theorem s_for {t : Tg} {mi : M (List D)} {body : MS} (h : RW (mi C f S) (fun ds f S => SW (loop t body C ds f S) N T B K E) E) : SW (sFor t mi body C f S) N T B K E := RW.thenS h
/-- no item is left -/
theorem w_loop0 {t : Tg} {body : MS} (h : N f S) : SW (loop t body C [] f S) N T B K E := h
/-- a loop whose items are written out -/
theorem w_loop1 {t : Tg} {body : MS} {d : D} {ds : List D} (h : OW (t.put d f) fun f' => SW (body C f' S) (fun f S => SW (loop t body C ds f S) N T B K E) T N (fun f S => SW (loop t body C ds f S) N T B K E) E) : SW (loop t body C (d :: ds) f S) N T B K E := by
  obtain ⟨f', h1, h2⟩ := h.elim
  unfold loop
  rw [h1]
  dsimp only
  revert h2
  cases body C f' S <;> exact fun h2 => h2
theorem w_whil {t : M Bool} {body : MS} (I : Nat → Fr → Store → Prop) {n m : Nat} (hm : m < n) (h0 : I m f S)
    (step : ∀ m f S, I m f S → RW (t C f S) (fun c f S => if c = true then SW (body C f S) (fun f S => ∃ m', m' < m ∧ I m' f S) T N (fun f S => ∃ m', m' < m ∧ I m' f S) E else N f S) E) : SW (whil t body C n f S) N T B K E := by
  induction n generalizing m f S with
  | zero => omega
  | succ n ih =>
    have h := step m f S h0
    unfold whil
    revert h
    cases t C f S with
    | bad => exact fun h => h
    | exc c fs f S => exact fun h => h
    | ok c f S =>
      cases c with
      | false => exact fun h => h
      | true =>
        intro h
        replace h : SW (body C f S) (fun f S => ∃ m', m' < m ∧ I m' f S) T N (fun f S => ∃ m', m' < m ∧ I m' f S) E := h
        dsimp only
        revert h
        cases body C f S with
        | nx f S => exact fun ⟨m', h1, h2⟩ => ih (by omega) h2
        | ct f S => exact fun ⟨m', h1, h2⟩ => ih (by omega) h2
        | bk f S => exact fun h2 => h2
        | rt d fr f S => exact fun h2 => h2
        | exc c fs f S => exact fun h2 => h2
        | bad => exact fun h2 => h2
theorem s_while {t : M Bool} {body : MS} {n : Nat} (h : SW (whil t body C n f S) N T B K E) : SW (sWhile n t body C f S) N T B K E := h
theorem s_forD {t : Tg} {k : Nat} {it : List (Ky × D) → List D} {body : MS} (h : RW (mVar k C f S) (fun d f S => OW (match d with
  | .dct kvs => some kvs
  | _ => none : Option (List (Ky × D))) fun kvs => SW (loop t body C (it kvs) f S) N T B K fun _ _ _ _ => False) E) : SW (sForD t k it body C f S) N T B K E := by
  refine RW.thenS (h.mono (fun d f S z => ?_) fun _ _ _ _ z => z)
  cases d with
  | dct kvs =>
    replace z : SW (loop t body C (it kvs) f S) N T B K fun _ _ _ _ => False := z
    dsimp only
    revert z
    cases loop t body C (it kvs) f S <;> first | exact fun z => z | exact fun z => z.elim
  | _ => exact False.elim z
/-! ### comprehensions -/
theorem w_comp {vs : List Nat} {t : Tg} {tst : M Bool} {elt : M D} {ds : List D} {Q : DX → Fr → Store → Prop} (I : List D → List D → List D → Fr → Store → Prop) (ho : noOwn f vs = true) (hv : outside vs t = true) (h0 : I [] ds [] f S) (hlen : ds.length ≤ LIM)
    (step : ∀ pre d post acc f S, ds = pre ++ d :: post → acc.length ≤ pre.length → I pre (d :: post) acc f S → OW (t.put d (wipeF f vs)) fun f' => RW (tst C f' S) (fun k f S => if k = true then RW (elt C f S) (fun y f S => I (pre ++ [d]) post (acc ++ [y]) f S) fun _ _ _ _ => False else I (pre ++ [d]) post acc f S) fun _ _ _ _ => False)
    (fin : ∀ acc f' S, I ds [] acc f' S → Q (.lst acc, true) (backF f f' vs) S) : RW (compK vs t tst elt ds C f S) Q E := by
  have key : ∀ (post pre acc : List D) (f : Fr) (S : Store), ds = pre ++ post → acc.length ≤ pre.length → I pre post acc f S → ∃ acc' f' S', comp vs t tst elt C post acc f S = .ok acc' f' S' ∧ I ds [] acc' f' S' := by
    intro post
    induction post with
    | nil => intro pre acc f S e _ h; rw [List.append_nil] at e; subst e; exact ⟨acc, f, S, rfl, h⟩
    | cons d post ih =>
      intro pre acc f S e hl h
      obtain ⟨f', h1, h2⟩ := (step pre d post acc f S e hl h).elim
      have e2 : ds = (pre ++ [d]) ++ post := by rw [e]; simp
      have hlt : pre.length < ds.length := by rw [e, List.length_append, List.length_cons]; omega
      unfold comp
      rw [h1]
      dsimp only
      revert h2
      cases tst C f' S with
      | bad => exact fun h => h.elim
      | exc c fs f S => exact fun h => h.elim
      | ok k f2 S2 =>
        cases k with
        | false => exact fun h => ih _ _ _ _ e2 (by rw [List.length_append]; omega) h
        | true =>
          intro h
          replace h : RW (elt C f2 S2) (fun y f S => I (pre ++ [d]) post (acc ++ [y]) f S) fun _ _ _ _ => False := h
          show ∃ acc' f' S', ((elt C f2 S2).bind fun y f S => if acc.length < LIM then comp vs t tst elt C post (acc ++ [y]) f S else .bad) = .ok acc' f' S' ∧ _
          revert h
          cases elt C f2 S2 with
          | bad => exact fun h => h.elim
          | exc c fs f S => exact fun h => h.elim
          | ok y f3 S3 =>
            intro h
            show ∃ acc' f' S', (if acc.length < LIM then comp vs t tst elt C post (acc ++ [y]) f3 S3 else .bad) = .ok acc' f' S' ∧ _
            rw [if_pos (by omega)]
            exact ih _ _ _ _ e2 (by rw [List.length_append, List.length_append, List.length_cons, List.length_cons]; simpa using hl) h
  obtain ⟨acc, f', S', h1, h2⟩ := key ds [] [] f S rfl (Nat.le_refl _) h0
  unfold compK
  rw [if_pos (by rw [ho, hv]; rfl), h1]
  exact fin acc f' S' h2
theorem w_mcomp {vs : List Nat} {t : Tg} {mi : M (List D)} {tst : M Bool} {elt : M D} {Q : DX → Fr → Store → Prop} (h : RW (mi C f S) (fun ds f S => RW (compK vs t tst elt ds C f S) Q E) E) : RW (mComp vs t mi tst elt C f S) Q E := w_bind h
theorem w_compD {vs : List Nat} {t : Tg} {k : Nat} {it : List (Ky × D) → List D} {tst : M Bool} {elt : M D} {Q : DX → Fr → Store → Prop} (h : RW (mVar k C f S) (fun d f S => OW (match d with
  | .dct kvs => some kvs
  | _ => none : Option (List (Ky × D))) fun kvs => RW (compK vs t tst elt (it kvs) C f S) Q E) E) : RW (compD vs t k it tst elt C f S) Q E := by
  refine w_bind (h.mono (fun d f S z => ?_) fun _ _ _ _ z => z)
  cases d <;> first | exact False.elim z | exact z
theorem w_iter {m : M D} {Q : List D → Fr → Store → Prop} (h : RW (m C f S) (fun d f S => OW (walkD d) fun ds => Q ds f S) E) : RW (mIter m C f S) Q E := w_bind (h.mono (fun _ _ _ z => w_opt z) fun _ _ _ _ z => z)
theorem w_range1 {m : M D} {Q : List D → Fr → Store → Prop} (h : RW (m C f S) (fun d f S => ∃ j : Int, d = .int j ∧ inR j = true ∧ Q (rangeD 0 j.toNat) f S) E) : RW (mRange1 m C f S) Q E :=
  w_bind (w_all1 (h.mono (fun d _ _ ⟨j, e, h1, h2⟩ => w_all0 (w_opt (.some (a := rangeD 0 j.toNat) (by subst e; dsimp only; rw [if_pos h1]) h2))) fun _ _ _ _ z => z))
theorem w_range2 {m n : M D} {Q : List D → Fr → Store → Prop} (h : RW (m C f S) (fun d f S => RW (n C f S) (fun e f S => ∃ i j : Int, d = .int i ∧ e = .int j ∧ (inR i && inR j) = true ∧ Q (rangeD i (j - i).toNat) f S) E) E) : RW (mRange2 m n C f S) Q E :=
  w_bind (w_all1 (h.mono (fun d _ _ z => w_all1 (z.mono (fun e _ _ ⟨i, j, e1, e2, h1, h2⟩ => w_all0 (w_opt (.some (a := rangeD i (j - i).toNat) (by subst e1 e2; dsimp only; rw [if_pos h1]) h2))) fun _ _ _ _ z => z)) fun _ _ _ _ z => z))
theorem w_enum {m : M D} {Q : List D → Fr → Store → Prop} (h : RW (m C f S) (fun d f S => OW (walkL d) fun xs => Q (pairD (rangeD 0 xs.length) xs) f S) E) : RW (mEnum m C f S) Q E :=
  w_bind (w_all1 (h.mono (fun d _ _ z => by
    obtain ⟨xs, h1, h2⟩ := z.elim
    exact w_all0 (w_opt (.some (a := pairD (rangeD 0 xs.length) xs) (by dsimp only; rw [h1]; rfl) h2))) fun _ _ _ _ z => z))
def zipD (d e : D) : Option (List D) := match [d, e] with
  | [.tup xs, .tup ys] => some (pairD xs ys)
  | [d, e] => (match walkL d, walkL e with
    | some xs, some ys => some (pairD xs ys)
    | _, _ => none)
  | _ => none
theorem w_zip {m n : M D} {Q : List D → Fr → Store → Prop} (h : RW (m C f S) (fun d f S => RW (n C f S) (fun e f S => OW (zipD d e) fun xs => Q xs f S) E) E) : RW (mZip m n C f S) Q E :=
  w_bind (w_all1 (h.mono (fun d _ _ z => w_all1 (z.mono (fun e _ _ z => w_all0 (w_opt z)) fun _ _ _ _ z => z)) fun _ _ _ _ z => z))
/-! ### try -/
theorem s_try {nx : Nat} {body : MS} {hs : List (Nat × Option Nat × MS)} (h : SW (body C f S) N T B K fun c fs f S => c < nx ∧ SW (tryHs C c fs f S hs) N T B K E) : SW (sTry nx body hs C f S) N T B K E := by
  unfold sTry
  revert h
  cases body C f S with
  | exc c fs f S => exact fun ⟨h1, h2⟩ => by dsimp only; rw [if_pos h1]; exact h2
  | _ => exact fun h => h
theorem w_post {oi : Option Nat} {r : RS} (h : SW r (fun f S => noEx (unF f oi) = true ∧ N (unF f oi) S) (fun d b f S => noEx (unF f oi) = true ∧ T d b (unF f oi) S) (fun f S => noEx (unF f oi) = true ∧ B (unF f oi) S) (fun f S => noEx (unF f oi) = true ∧ K (unF f oi) S) fun _ _ _ _ => False) : SW (r.post oi) N T B K E := by
  cases r with
  | nx f S => show SW (if noEx (unF f oi) = true then RS.nx (unF f oi) S else .bad) N T B K E; rw [if_pos h.1]; exact h.2
  | bk f S => show SW (if noEx (unF f oi) = true then RS.bk (unF f oi) S else .bad) N T B K E; rw [if_pos h.1]; exact h.2
  | ct f S => show SW (if noEx (unF f oi) = true then RS.ct (unF f oi) S else .bad) N T B K E; rw [if_pos h.1]; exact h.2
  | rt d fr f S => show SW (if noEx (unF f oi) = true then RS.rt d fr (unF f oi) S else .bad) N T B K E; rw [if_pos h.1]; exact h.2
  | exc c fs f S => exact h.elim
  | bad => exact h.elim
theorem w_hs {c k : Nat} {fs : List (Tx × D)} {oi : Option Nat} {m : MS} {r : List (Nat × Option Nat × MS)} (h : if decide (c = k) = true then noEx f = true ∧ SW ((m C (asF f fs oi) S).post oi) N T B K E else SW (tryHs C c fs f S r) N T B K E) : SW (tryHs C c fs f S ((k, oi, m) :: r)) N T B K E := by
  unfold tryHs
  by_cases e : c = k
  · rw [if_pos (by simpa using e)] at h
    rw [if_pos e, if_pos h.1]
    exact h.2
  · rw [if_neg (by simpa using e)] at h
    rw [if_neg e]
    exact h
/-! ### a def's entry -/
theorem w_def {bd : Nat → Option (Nat × MS)} {n m i k : Nat} {b : MS} {args : List Sl} {lam : Store → CR} {Q : D → Bool → Store → Prop} {EE : Nat → List (Tx × D) → Store → Prop} (hn : n = m + 1) (hb : bd i = some (k, b))
    (h : SW (b ⟨callM bd m, lam, m, loM bd m⟩ (frame k args) S) (fun _ S => Q .non false S) (fun d b _ S => Q d b S) (fun _ _ => False) (fun _ _ => False) fun c fs _ S => EE c fs S) : CW (callM bd n i args lam S) Q EE := by
  subst hn
  rw [callM_succ, hb]
  dsimp only
  revert h
  cases b ⟨callM bd m, lam, m, loM bd m⟩ (frame k args) S <;> exact fun h => h
end
end Mi
namespace Mi
theorem ite_T {c : Bool} {a b : Prop} (h : c = true) (x : a) : if c = true then a else b := by rw [if_pos h]; exact x
theorem ite_F {c : Bool} {a b : Prop} (h : c = false) (x : b) : if c = true then a else b := by rw [h]; exact x
end Mi
namespace Mi
theorem lenI {xs : List D} {P : Prop} (h : xs.length ≤ LIM) (p : P) : xs.length ≤ LIM ∧ P := ⟨h, p⟩
theorem kvsI {xs : List (Ky × D)} {P : Prop} (h : xs.length ≤ 15) (p : P) : xs.length ≤ 15 ∧ P := ⟨h, p⟩
theorem peI {f : Fr} {k : Nat} {P : Prop} (h : ∃ e, peek f k = some e) (p : P) : (∃ e, peek f k = some e) ∧ P := ⟨h, p⟩
end Mi
namespace Mi
/-- a comprehension item by item -/
def CpW (vs : List Nat) (t : Tg) (tst : M Bool) (elt : M D) (C : Ctx) (f0 : Fr) (Q : DX → Fr → Store → Prop) : List D → List D → Fr → Store → Prop
  | [], acc, f, S => SetW (backF f0 f vs) fun f => Q (.lst acc, true) f S
  | d :: ds, acc, f, S => OW (t.put d (wipeF f vs)) fun f' => RW (tst C f' S) (fun k f S => if k = true then RW (elt C f S) (fun y f S => acc.length < LIM ∧ CpW vs t tst elt C f0 Q ds (acc ++ [y]) f S) (fun _ _ _ _ => False) else CpW vs t tst elt C f0 Q ds acc f S) fun _ _ _ _ => False
section
variable {vs : List Nat} {t : Tg} {tst : M Bool} {elt : M D} {C : Ctx} {f0 f : Fr} {S : Store} {Q : DX → Fr → Store → Prop} {E : EX} {d : D} {ds acc : List D}
theorem cp0 (h : SetW (backF f0 f vs) fun f => Q (.lst acc, true) f S) : CpW vs t tst elt C f0 Q [] acc f S := h
theorem cp1 (h : OW (t.put d (wipeF f vs)) fun f' => RW (tst C f' S) (fun k f S => if k = true then RW (elt C f S) (fun y f S => acc.length < LIM ∧ CpW vs t tst elt C f0 Q ds (acc ++ [y]) f S) (fun _ _ _ _ => False) else CpW vs t tst elt C f0 Q ds acc f S) fun _ _ _ _ => False) : CpW vs t tst elt C f0 Q (d :: ds) acc f S := h
theorem ltI {xs : List D} {P : Prop} (h : xs.length < LIM) (p : P) : xs.length < LIM ∧ P := ⟨h, p⟩
theorem w_compU (ho : noOwn f vs = true) (hv : outside vs t = true) (h : CpW vs t tst elt C f Q ds [] f S) : RW (compK vs t tst elt ds C f S) Q E := by
  have key : ∀ (ds acc : List D) (f1 : Fr) (S : Store), CpW vs t tst elt C f Q ds acc f1 S → ∃ acc' f' S', comp vs t tst elt C ds acc f1 S = .ok acc' f' S' ∧ Q (.lst acc', true) (backF f f' vs) S' := by
    intro ds
    induction ds with
    | nil => intro acc f1 S h; exact ⟨acc, f1, S, rfl, h⟩
    | cons d ds ih =>
      intro acc f1 S h
      obtain ⟨f', h1, h2⟩ := (show OW (t.put d (wipeF f1 vs)) _ from h).elim
      unfold comp
      rw [h1]
      dsimp only
      revert h2
      cases tst C f' S with
      | bad => exact fun h => h.elim
      | exc c fs f S => exact fun h => h.elim
      | ok k f2 S2 =>
        cases k with
        | false => exact fun h => ih _ _ _ h
        | true =>
          intro h
          replace h : RW (elt C f2 S2) (fun y f' S => acc.length < LIM ∧ CpW vs t tst elt C f Q ds (acc ++ [y]) f' S) fun _ _ _ _ => False := h
          show ∃ acc' f' S', ((elt C f2 S2).bind fun y f S => if acc.length < LIM then comp vs t tst elt C ds (acc ++ [y]) f S else .bad) = .ok acc' f' S' ∧ _
          revert h
          cases elt C f2 S2 with
          | bad => exact fun h => h.elim
          | exc c fs f S => exact fun h => h.elim
          | ok y f3 S3 =>
            intro ⟨hl, h⟩
            show ∃ acc' f' S', (if acc.length < LIM then comp vs t tst elt C ds (acc ++ [y]) f3 S3 else .bad) = .ok acc' f' S' ∧ _
            rw [if_pos hl]
            exact ih _ _ _ h
  obtain ⟨acc, f', S', h1, h2⟩ := key ds [] f S h
  unfold compK
  rw [if_pos (by rw [ho, hv]; rfl), h1]
  exact h2
end
end Mi
namespace Mi
theorem putI {t : Tg} {d : D} {f f' : Fr} {Q : Fr → Prop} (e : t.put d f = some f') (h : Q f') : OW (t.put d f) Q := .some e h
end Mi
set_option Elab.async false
set_option linter.all false
set_option maxRecDepth 100000
/-! Mi, part 41: plain facts that many laws ask. -/
namespace Mi
open PySem
/-! ### data: no object of the store, small numbers -/
def kOk : Ky → Bool
  | .i i => decide (i.natAbs < 2 ^ 40)
  | .s x => x.all fun c => decide (c < 16 ^ 8)
def kWt : Ky → Nat
  | .i _ => 41
  | .s x => x.length
mutual
def dOk : D → Bool
  | .non => true
  | .bl _ => true
  | .int i => decide (i.natAbs < 2 ^ 40)
  | .str x => x.all fun c => decide (c < 16 ^ 8)
  | .tup ds => dOks ds
  | .lst ds => dOks ds
  | .dct kvs => dOkk kvs
  | .ref _ => false
  | .scr _ => false
def dOks : List D → Bool
  | [] => true
  | d :: ds => dOk d && dOks ds
def dOkk : List (Ky × D) → Bool
  | [] => true
  | (k, d) :: ds => kOk k && dOk d && dOkk ds
end
mutual
def dWt : D → Nat
  | .non => 0
  | .bl _ => 0
  | .int _ => 41
  | .str x => x.length
  | .tup ds => dWts ds
  | .lst ds => dWts ds
  | .dct kvs => dWtk kvs
  | .ref _ => 0
  | .scr _ => 0
def dWts : List D → Nat
  | [] => 0
  | d :: ds => dWt d + 1 + dWts ds
def dWtk : List (Ky × D) → Nat
  | [] => 0
  | (k, d) :: ds => kWt k + dWt d + 2 + dWtk ds
end
mutual
def dDp : D → Nat
  | .tup ds => dDps ds + 1
  | .lst ds => dDps ds + 1
  | .dct kvs => dDpk kvs + 1
  | _ => 0
def dDps : List D → Nat
  | [] => 0
  | d :: ds => max (dDp d) (dDps ds)
def dDpk : List (Ky × D) → Nat
  | [] => 0
  | (_, d) :: ds => max (dDp d) (dDpk ds)
end
theorem kyP_toR (k : Ky) : toR (kyD k) = some (kyP k) := by cases k <;> rfl
theorem log2_lt40 {n : Nat} (h : n < 2 ^ 40) : n.log2 < 40 := by
  by_cases h0 : n = 0
  · subst h0; decide
  · exact (Nat.log2_lt h0).mpr h
theorem int_short {i : Int} (h : i.natAbs < 2 ^ 40) : (PyData.shown (.int i)).length ≤ 42 := by
  have h2 := PySem.int_text_length_le (a := i) (k := 41) (by decide) (Nat.lt_succ_of_lt (log2_lt40 h))
  unfold PyData.shown
  rw [PySem.ofString_length]
  exact h2
theorem depthAll_eq (p : PyData) (ps : List PyData) : PyData.depthAll (p :: ps) = max p.depth (PyData.depthAll ps) := by simp only [PyData.depthAll]
mutual
theorem toR_ok : ∀ d : D, dOk d = true → ∃ p, toR d = some p ∧ p.showable = true ∧ p.leavesShort 42 = true ∧ p.weight ≤ dWt d ∧ p.depth ≤ dDp d
  | .non, _ => ⟨_, rfl, rfl, by simp [PyData.leavesShort], by simp [PyData.weight, dWt], by simp [PyData.depth]⟩
  | .bl b, _ => ⟨_, rfl, by simp [PyData.showable], by simp [PyData.leavesShort], by simp [PyData.weight, dWt], by simp [PyData.depth]⟩
  | .int i, h => by
    unfold dOk at h
    have h' := of_decide_eq_true h
    have hl := log2_lt40 h'
    refine ⟨_, rfl, ?_, ?_, ?_, by simp [PyData.depth]⟩
    · unfold PyData.showable; exact decide_eq_true (by omega)
    · unfold PyData.leavesShort; exact decide_eq_true (int_short h')
    · unfold PyData.weight dWt
      split <;> omega
  | .str x, h => by
    unfold dOk at h
    refine ⟨_, rfl, by simp [PyData.showable], ?_, ?_, by simp [PyData.depth]⟩
    · unfold PyData.leavesShort; exact h
    · unfold PyData.weight dWt; exact Nat.le_of_eq (toStr_len x)
  | .tup ds, h => by
    unfold dOk at h
    obtain ⟨ps, h1, h2, h3, h4, h5⟩ := toRs_ok ds h
    refine ⟨.tuple ps, by unfold toR; rw [h1]; rfl, ?_, ?_, ?_, ?_⟩
    · unfold PyData.showable; exact h2
    · unfold PyData.leavesShort; exact h3
    · unfold PyData.weight dWt; exact h4
    · unfold PyData.depth dDp; omega
  | .lst ds, h => by
    unfold dOk at h
    obtain ⟨ps, h1, h2, h3, h4, h5⟩ := toRs_ok ds h
    refine ⟨.list ps, by unfold toR; rw [h1]; rfl, ?_, ?_, ?_, ?_⟩
    · unfold PyData.showable; exact h2
    · unfold PyData.leavesShort; exact h3
    · unfold PyData.weight dWt; exact h4
    · unfold PyData.depth dDp; omega
  | .dct kvs, h => by
    unfold dOk at h
    obtain ⟨ps, h1, h2, h3, h4, h5⟩ := toRk_ok kvs h
    refine ⟨.dict ps, by unfold toR; rw [h1]; rfl, ?_, ?_, ?_, ?_⟩
    · unfold PyData.showable; exact h2
    · unfold PyData.leavesShort; exact h3
    · unfold PyData.weight dWt; exact h4
    · unfold PyData.depth dDp; omega
  | .ref _, h => by cases h
  | .scr _, h => by cases h
theorem toRs_ok : ∀ ds : List D, dOks ds = true → ∃ ps, toRs ds = some ps ∧ PyData.showableAll ps = true ∧ PyData.leavesShortAll 42 ps = true ∧ PyData.weightAll ps ≤ dWts ds ∧ PyData.depthAll ps ≤ dDps ds
  | [], _ => ⟨[], rfl, rfl, rfl, Nat.le_refl _, Nat.le_refl _⟩
  | d :: ds, h => by
    unfold dOks at h
    obtain ⟨ha, hb⟩ := Bool.and_eq_true_iff.mp h
    obtain ⟨p, a1, a2, a3, a4, a5⟩ := toR_ok d ha
    obtain ⟨ps, b1, b2, b3, b4, b5⟩ := toRs_ok ds hb
    refine ⟨p :: ps, by unfold toRs; rw [a1, b1], ?_, ?_, ?_, ?_⟩
    · unfold PyData.showableAll; rw [a2, b2]; rfl
    · unfold PyData.leavesShortAll; rw [a3, b3]; rfl
    · unfold PyData.weightAll dWts; omega
    · rw [depthAll_eq]; unfold dDps; omega
theorem toRk_ok : ∀ ds : List (Ky × D), dOkk ds = true → ∃ ps, toRk ds = some ps ∧ PyData.showableKv ps = true ∧ PyData.leavesShortKv 42 ps = true ∧ PyData.weightKv ps ≤ dWtk ds ∧ PyData.depthKv ps ≤ dDpk ds
  | [], _ => ⟨[], rfl, rfl, rfl, Nat.le_refl _, Nat.le_refl _⟩
  | (k, d) :: ds, h => by
    unfold dOkk at h
    obtain ⟨h, hb⟩ := Bool.and_eq_true_iff.mp h
    obtain ⟨hk, ha⟩ := Bool.and_eq_true_iff.mp h
    obtain ⟨p, a1, a2, a3, a4, a5⟩ := toR_ok d ha
    have key : ∃ p, toR (kyD k) = some p ∧ p.showable = true ∧ p.leavesShort 42 = true ∧ p.weight ≤ kWt k ∧ p.depth ≤ 0 := by
      cases k with
      | i n =>
        have h' : n.natAbs < 2 ^ 40 := of_decide_eq_true hk
        have hl := log2_lt40 h'
        refine ⟨_, rfl, ?_, ?_, ?_, by simp [PyData.depth]⟩
        · unfold PyData.showable; exact decide_eq_true (by omega)
        · unfold PyData.leavesShort; exact decide_eq_true (int_short h')
        · show PyData.weight (.int n) ≤ 41
          unfold PyData.weight
          split <;> omega
      | s x =>
        refine ⟨_, rfl, by simp [PyData.showable], ?_, ?_, by simp [PyData.depth]⟩
        · unfold PyData.leavesShort; exact hk
        · unfold PyData.weight kWt; exact Nat.le_of_eq (toStr_len x)
    obtain ⟨q, c1, c2, c3, c4, c5⟩ := key
    rw [kyP_toR] at c1
    cases c1
    obtain ⟨ps, b1, b2, b3, b4, b5⟩ := toRk_ok ds hb
    refine ⟨(kyP k, p) :: ps, by unfold toRk; rw [a1, b1], ?_, ?_, ?_, ?_⟩
    · unfold PyData.showableKv; rw [c2, a2, b2]; rfl
    · unfold PyData.leavesShortKv; rw [c3, a3, b3]; rfl
    · unfold PyData.weightKv dWtk; omega
    · unfold PyData.depthKv dDpk
      have : (kyP k).depth = 0 := by cases k <;> simp [kyP, PyData.depth]
      omega
end
def boxD : D → Bool
  | .tup _ => true
  | .lst _ => true
  | .dct _ => true
  | _ => false
/-- what repr tells -/
def reprD (d : D) : Tx := match toR d with
  | some p => p.shown.cps.toList
  | none => []
theorem bRepr_ok {S : Store} {d : D} (hb : boxD d = true) (h : dOk d = true) (hw : dWt d ≤ 300000) (hd : dDp d ≤ 60) : bRepr S d = some (.str (reprD d), false) := by
  obtain ⟨p, h1, h2, h3, h4, h5⟩ := toR_ok d h
  have e : toRS S d = some p := by
    cases d with
    | ref i => cases h
    | _ => exact h1
  have box : isBox p = true := by
    cases d with
    | tup ds =>
      unfold toR at h1
      cases q : toRs ds with
      | none => rw [q] at h1; cases h1
      | some ps => rw [q] at h1; cases h1; rfl
    | lst ds =>
      unfold toR at h1
      cases q : toRs ds with
      | none => rw [q] at h1; cases h1
      | some ps => rw [q] at h1; cases h1; rfl
    | dct ds =>
      unfold toR at h1
      cases q : toRk ds with
      | none => rw [q] at h1; cases h1
      | some ps => rw [q] at h1; cases h1; rfl
    | _ => cases hb
  have len : p.shown.length ≤ LIM := by
    have z := PyData.shown_le 42 (by decide) p h3
    have z2 : (42 + 2) * p.weight ≤ 44 * 300000 := Nat.mul_le_mul_left _ (by omega)
    show p.shown.length ≤ 16777216
    omega
  unfold bRepr reprD
  rw [e, h1]
  dsimp only
  rw [if_pos (by rw [box, h2, decide_eq_true (show p.depth ≤ 60 by omega), decide_eq_true len]; rfl)]
/-! ### lists of truth values -/
theorem allB_true {α : Type} (xs : List α) : allB (xs.map fun _ => D.bl true) = some (xs.map fun _ => true) := by
  induction xs with
  | nil => rfl
  | cons x xs ih =>
    show (allB (xs.map fun _ => D.bl true)).map (true :: ·) = _
    rw [ih]
    rfl
theorem all_true {α : Type} (xs : List α) : (xs.map fun _ => true).all id = true := by
  induction xs with
  | nil => rfl
  | cons x xs ih => exact ih
theorem allB_map {α : Type} (p : α → Bool) (xs : List α) : allB (xs.map fun x => D.bl (p x)) = some (xs.map p) := by
  induction xs with
  | nil => rfl
  | cons x xs ih =>
    show (allB (xs.map fun x => D.bl (p x))).map (p x :: ·) = _
    rw [ih]
    rfl
theorem bAll_true {S : Store} {α : Type} (xs : List α) : bAll S (.lst (xs.map fun _ => D.bl true)) = some (.bl true, false) := by
  unfold bAll
  show (((some (xs.map fun _ => D.bl true)).bind allB).map _) = _
  rw [Option.bind_some, allB_true]
  show some (D.bl _, false) = _
  rw [all_true]
theorem bAll_map {S : Store} {α : Type} (p : α → Bool) (xs : List α) : bAll S (.lst (xs.map fun x => D.bl (p x))) = some (.bl (xs.all p), false) := by
  unfold bAll
  show (((some (xs.map fun x => D.bl (p x))).bind allB).map _) = _
  rw [Option.bind_some, allB_map]
  show some (D.bl _, false) = _
  rw [List.all_map]
  rfl
theorem pairD_zip : ∀ xs ys : List D, pairD xs ys = (xs.zip ys).map fun p => .tup [p.1, p.2]
  | [], _ => rfl
  | _ :: _, [] => rfl
  | x :: xs, y :: ys => by
    show D.tup [x, y] :: pairD xs ys = _
    rw [pairD_zip xs ys]
    rfl
theorem okMul_l {i j : Int} (h : i.natAbs < 2 ^ 64) : okMul i j = true := by unfold okMul; rw [decide_eq_true h]; rfl
theorem okMul_r {i j : Int} (h : j.natAbs < 2 ^ 64) : okMul i j = true := by unfold okMul; rw [decide_eq_true h]; simp
theorem okMul_b {i j : Int} (k : Nat) (hk : k < 400000) (h1 : i.natAbs < 2 ^ k) (h2 : j.natAbs < 2 ^ k) : okMul i j = true := by
  unfold okMul
  have l1 : i.natAbs.log2 ≤ k := by
    by_cases h0 : i.natAbs = 0
    · rw [h0]; exact Nat.zero_le _
    · exact Nat.le_of_lt ((Nat.log2_lt h0).mpr h1)
  have l2 : j.natAbs.log2 ≤ k := by
    by_cases h0 : j.natAbs = 0
    · rw [h0]; exact Nat.zero_le _
    · exact Nat.le_of_lt ((Nat.log2_lt h0).mpr h2)
  rw [decide_eq_true (show i.natAbs.log2 + j.natAbs.log2 < 1000000 by omega)]
  simp
end Mi
namespace Mi
open PySem
/-! ### == of data -/
mutual
/-- data without dicts -/
def dQ : D → Bool
  | .non => true
  | .bl _ => true
  | .int _ => true
  | .str x => PyData.canLay0 (.str (toStr x))
  | .tup ds => dQs ds
  | .lst ds => dQs ds
  | _ => false
def dQs : List D → Bool
  | [] => true
  | d :: ds => dQ d && dQs ds
end
mutual
theorem toP_ok : ∀ d : D, dQ d = true → ∃ p, toP d = some p ∧ p.canLay0 = true ∧ p.depth ≤ dDp d
  | .non, _ => ⟨_, rfl, by simp [PyData.canLay0], by simp [PyData.depth]⟩
  | .bl b, _ => ⟨_, rfl, by simp [PyData.canLay0], by simp [PyData.depth]⟩
  | .int i, _ => ⟨_, rfl, by simp [PyData.canLay0], by simp [PyData.depth]⟩
  | .str x, h => ⟨_, rfl, h, by simp [PyData.depth]⟩
  | .tup ds, h => by
    unfold dQ at h
    obtain ⟨ps, h1, h2, h3⟩ := toPs_ok ds h
    refine ⟨.tuple ps, by unfold toP; rw [h1]; rfl, ?_, ?_⟩
    · unfold PyData.canLay0; exact h2
    · unfold PyData.depth dDp; omega
  | .lst ds, h => by
    unfold dQ at h
    obtain ⟨ps, h1, h2, h3⟩ := toPs_ok ds h
    refine ⟨.list ps, by unfold toP; rw [h1]; rfl, ?_, ?_⟩
    · unfold PyData.canLay0; exact h2
    · unfold PyData.depth dDp; omega
  | .dct _, h => by cases h
  | .ref _, h => by cases h
  | .scr _, h => by cases h
theorem toPs_ok : ∀ ds : List D, dQs ds = true → ∃ ps, toPs ds = some ps ∧ PyData.canLayAll0 ps = true ∧ PyData.depthAll ps ≤ dDps ds
  | [], _ => ⟨[], rfl, rfl, Nat.le_refl _⟩
  | d :: ds, h => by
    unfold dQs at h
    obtain ⟨ha, hb⟩ := Bool.and_eq_true_iff.mp h
    obtain ⟨p, a1, a2, a3⟩ := toP_ok d ha
    obtain ⟨ps, b1, b2, b3⟩ := toPs_ok ds hb
    refine ⟨p :: ps, by unfold toPs; rw [a1, b1], ?_, ?_⟩
    · unfold PyData.canLayAll0; rw [a2, b2]; rfl
    · rw [depthAll_eq]; unfold dDps; omega
end
theorem toPs_len : ∀ {ds : List D} {ps : List PyData}, toPs ds = some ps → ps.length = ds.length
  | [], _, h => by cases h; rfl
  | d :: ds, ps, h => by
    unfold toPs at h
    split at h
    · rename_i p qs e1 e2
      cases h
      rw [List.length_cons, List.length_cons, toPs_len e2]
    · cases h
theorem shaped_of {p : PyData} (h1 : p.canLay0 = true) (h2 : p.depth ≤ 64) : SeqAt.shaped p = true := by
  unfold SeqAt.shaped
  rw [h1, decide_eq_true h2]
  rfl
/-- xs == [] -/
theorem pEq_nil {S : Store} {ds : List D} (h : dQs ds = true) (hd : dDps ds ≤ 60) : pEq S (.lst ds) (.lst []) = some ds.isEmpty := by
  obtain ⟨ps, h1, h2, h3⟩ := toPs_ok ds h
  unfold pEq
  have e1 : toPS S (.lst ds) = some (.list ps) := by
    show toP (.lst ds) = _
    unfold toP
    rw [h1]
    rfl
  have e2 : toPS S (.lst []) = some (.list []) := rfl
  have s1 : SeqAt.shaped (.list ps) = true := shaped_of (by unfold PyData.canLay0; exact h2) (by unfold PyData.depth; omega)
  have s2 : SeqAt.shaped (.list []) = true := by decide
  show (match toPS S (.lst ds), toPS S (.lst []) with
    | some p, some q => if (SeqAt.shaped p && SeqAt.shaped q) = true then some (PyData.eqv p q) else none
    | _, _ => none) = _
  rw [e1, e2]
  dsimp only
  rw [s1, s2, Bool.and_self, if_pos rfl]
  cases ds with
  | nil => cases h1; rfl
  | cons d ds =>
    cases ps with
    | nil => have := toPs_len h1; simp at this
    | cons p ps => rfl
theorem pNe_nil {S : Store} {ds : List D} (h : dQs ds = true) (hd : dDps ds ≤ 60) : pNe S (.lst ds) (.lst []) = some (!ds.isEmpty) := by
  unfold pNe
  rw [pEq_nil h hd]
  rfl
/-! ### places -/
theorem atI_at {α : Type} {xs : List α} {i : Int} (h0 : 0 ≤ i) (h1 : i < xs.length) : ∃ x ∈ xs, atI xs i = some x ∧ xs[i.toNat]? = some x := by
  have hlt : i.toNat < xs.length := by omega
  refine ⟨xs[i.toNat], List.getElem_mem hlt, ?_, List.getElem?_eq_getElem hlt⟩
  unfold atI ixN
  rw [if_pos h0, if_pos h1]
  exact List.getElem?_eq_getElem hlt
theorem pIx_lst {S : Store} {xs : List D} {i : Int} (h0 : 0 ≤ i) (h1 : i < xs.length) : ∃ x ∈ xs, pIx S (.lst xs) (.int i) = some (x, false) ∧ xs[i.toNat]? = some x := by
  obtain ⟨x, hx, e, e2⟩ := atI_at h0 h1
  refine ⟨x, hx, ?_, e2⟩
  show (atI xs i).map _ = _
  rw [e]
  rfl
theorem pIx_tup {S : Store} {xs : List D} {i : Int} (h0 : 0 ≤ i) (h1 : i < xs.length) : ∃ x ∈ xs, pIx S (.tup xs) (.int i) = some (x, false) ∧ xs[i.toNat]? = some x := by
  obtain ⟨x, hx, e, e2⟩ := atI_at h0 h1
  refine ⟨x, hx, ?_, e2⟩
  show (atI xs i).map _ = _
  rw [e]
  rfl
/-! ### the stream of draws: three numbers at i of the store -/
structure StV (k : Nat) (a b c : Int) : Prop where
  a0 : 0 ≤ a
  b0 : 0 ≤ b
  b1 : b < 2 ^ 33
  c0 : 0 ≤ c
  c1 : c ≤ (k : Int)
def Stm (k : Nat) (i : Nat) (S : Store) : Prop := ∃ a b c : Int, S[i]? = some (.lst [.int a, .int b, .int c]) ∧ StV k a b c
/-- more draws -/
def Aft (k : Nat) (i : Nat) (S S' : Store) : Prop := ∃ a b c : Int, S' = S.set i (.lst [.int a, .int b, .int c]) ∧ StV k a b c
theorem Stm.lt {k i : Nat} {S : Store} (h : Stm k i S) : i < S.length := by
  obtain ⟨a, b, c, h, _⟩ := h
  exact (List.getElem?_eq_some_iff.mp h).1
theorem StV.mono {k k' : Nat} {a b c : Int} (h : StV k a b c) (hk : k ≤ k') : StV k' a b c := ⟨h.a0, h.b0, h.b1, h.c0, by have := h.c1; omega⟩
theorem Stm.mono {k k' i : Nat} {S : Store} (h : Stm k i S) (hk : k ≤ k') : Stm k' i S := by
  obtain ⟨a, b, c, h, v⟩ := h
  exact ⟨a, b, c, h, v.mono hk⟩
theorem Aft.mono {k k' i : Nat} {S S' : Store} (h : Aft k i S S') (hk : k ≤ k') : Aft k' i S S' := by
  obtain ⟨a, b, c, h, v⟩ := h
  exact ⟨a, b, c, h, v.mono hk⟩
theorem Aft.stm {k i : Nat} {S S' : Store} (h : Aft k i S S') (hi : i < S.length) : Stm k i S' := by
  obtain ⟨a, b, c, rfl, v⟩ := h
  exact ⟨a, b, c, by rw [List.getElem?_set_self hi], v⟩
theorem Aft.len {k i : Nat} {S S' : Store} (h : Aft k i S S') : S'.length = S.length := by
  obtain ⟨a, b, c, rfl, v⟩ := h
  rw [List.length_set]
theorem Aft.trans {k k' i : Nat} {S S1 S2 : Store} (h1 : Aft k i S S1) (h2 : Aft k' i S1 S2) : Aft k' i S S2 := by
  obtain ⟨a, b, c, rfl, v⟩ := h1
  obtain ⟨a', b', c', rfl, v'⟩ := h2
  exact ⟨a', b', c', by rw [List.set_set], v'⟩
theorem Stm.aft {k i : Nat} {S : Store} (h : Stm k i S) : Aft k i S S := by
  obtain ⟨a, b, c, h, v⟩ := h
  obtain ⟨hlt, e⟩ := List.getElem?_eq_some_iff.mp h
  exact ⟨a, b, c, by rw [← e, List.set_getElem_self], v⟩
end Mi
namespace Mi
open PySem
theorem dQs_of {ds : List D} (h : ∀ d ∈ ds, dQ d = true) : dQs ds = true := by
  induction ds with
  | nil => rfl
  | cons d ds ih => unfold dQs; rw [h d List.mem_cons_self, ih fun e he => h e (List.mem_cons_of_mem _ he)]; rfl
theorem dDps_of {ds : List D} {k : Nat} (h : ∀ d ∈ ds, dDp d ≤ k) : dDps ds ≤ k := by
  induction ds with
  | nil => exact Nat.zero_le _
  | cons d ds ih => unfold dDps; have := h d List.mem_cons_self; have := ih fun e he => h e (List.mem_cons_of_mem _ he); omega
theorem dDp_mem {ds : List D} {d : D} (h : d ∈ ds) : dDp d ≤ dDps ds := by
  induction ds with
  | nil => cases h
  | cons e ds ih =>
    unfold dDps
    rcases List.mem_cons.mp h with rfl | h
    · omega
    · have := ih h; omega
theorem hPopAt_ok {ds : List D} {i : Int} (h0 : 0 ≤ i) (h1 : i < ds.length) (h2 : ds.length < 2 ^ 62) : ∃ d, ds[i.toNat]? = some d ∧ hPopAt (.lst ds) [.int i] = some (.lst (ds.eraseIdx i.toNat), d) := by
  have hlt : i.toNat < ds.length := by omega
  refine ⟨ds[i.toNat], List.getElem?_eq_getElem hlt, ?_⟩
  unfold hPopAt
  dsimp only
  rw [if_pos (by rw [decide_eq_true (show -(2 ^ 63) ≤ i by omega), decide_eq_true (show i < 2 ^ 63 by omega)]; rfl)]
  have e : seqIndex? i ds.length = some i.toNat := by
    unfold seqIndex?
    rw [if_neg (show ¬ i < 0 by omega)]
    dsimp only
    rw [if_pos (by rw [decide_eq_true h0, decide_eq_true h1]; rfl)]
  rw [e]
  dsimp only
  rw [List.getElem?_eq_getElem hlt]
  rfl
theorem perm_at {ds : List D} {i : Nat} (h : i < ds.length) : ds.Perm (ds[i] :: ds.eraseIdx i) := by
  induction ds generalizing i with
  | nil => exact absurd h (Nat.not_lt_zero _)
  | cons d ds ih =>
    cases i with
    | zero => exact List.Perm.refl _
    | succ i =>
      have h' : i < ds.length := by simpa using h
      exact (List.Perm.cons d (ih h')).trans (List.Perm.swap _ _ _)
theorem perm_erase {ds : List D} {i : Nat} {d : D} (h : ds[i]? = some d) : (d :: ds.eraseIdx i).Perm ds := by
  obtain ⟨hlt, e⟩ := List.getElem?_eq_some_iff.mp h
  rw [← e]
  exact List.Perm.symm (perm_at hlt)
theorem pIx_refL {S : Store} {i : Nat} {ds : List D} {j : D} (e : S[i]? = some (.lst ds)) : pIx S (.ref i) j = pIx S (.lst ds) j := by
  have e1 : dctOf S (.ref i) = none := by unfold dctOf; dsimp only; rw [e]
  have e2 : seqOf S (.ref i) = some ds := by unfold seqOf; dsimp only; rw [e]
  show (match dctOf S (.ref i) with
    | some kvs => (match asKy j with
      | some k => (valK kvs k).map fun d => (d, false)
      | none => none)
    | none => (match seqOf S (.ref i) with
      | some ds => (match j with
        | .int i => (atI ds i).map fun d => (d, false)
        | _ => none)
      | none => none)) = _
  rw [e1, e2]
  rfl
theorem obj_refL {S : Store} {i : Nat} {o : SO} {f : Fr} {k : Nat} (h : f[k]? = some (.val (.ref i))) (e : S[i]? = some o) : obj f S k = some o := by
  unfold obj
  rw [h]
  exact e
/-- a list's items, a tuple's -/
def sqOf : D → Option (List D)
  | .tup ds => some ds
  | .lst ds => some ds
  | _ => none
mutual
/-- the same but for what is a list, what a tuple -/
inductive Ls : D → D → Prop
  | leaf {d : D} : sqOf d = none → Ls d d
  | seq {a b : D} {ds es : List D} : sqOf a = some ds → sqOf b = some es → LsA ds es → Ls a b
inductive LsA : List D → List D → Prop
  | nil : LsA [] []
  | cons {d e : D} {ds es : List D} : Ls d e → LsA ds es → LsA (d :: ds) (e :: es)
end
theorem LsA.snoc {d e : D} : ∀ {ds es : List D}, LsA ds es → Ls d e → LsA (ds ++ [d]) (es ++ [e])
  | _, _, .nil, h => .cons h .nil
  | _, _, .cons h1 h2, h => .cons h1 (LsA.snoc h2 h)
theorem LsA.length {ds es : List D} (h : LsA ds es) : ds.length = es.length := by
  match h with
  | .nil => rfl
  | .cons _ h => rw [List.length_cons, List.length_cons, LsA.length h]
mutual
/-- how many lists, tuples -/
def lkD : D → Nat
  | .tup ds => lkDs ds + 1
  | .lst ds => lkDs ds + 1
  | _ => 0
def lkDs : List D → Nat
  | [] => 0
  | d :: ds => lkD d + lkDs ds
end
theorem lkDs_app (ds es : List D) : lkDs (ds ++ es) = lkDs ds + lkDs es := by
  induction ds with
  | nil => rw [List.nil_append]; simp only [lkDs]; omega
  | cons d ds ih => rw [List.cons_append]; simp only [lkDs]; rw [ih]; omega
theorem dDp_sq {d : D} {ds : List D} (h : sqOf d = some ds) : dDp d = dDps ds + 1 := by
  cases d <;> cases h <;> (unfold dDp; rfl)
theorem lkD_sq {d : D} {ds : List D} (h : sqOf d = some ds) : lkD d = lkDs ds + 1 := by
  cases d <;> cases h <;> (unfold lkD; rfl)
/-! ### data that may hold dicts -/
mutual
def dPl : D → Bool
  | .tup ds => decide (ds.length ≤ LIM) && dPls ds
  | .lst ds => decide (ds.length ≤ LIM) && dPls ds
  | .dct kvs => decide (kvs.length ≤ LIM) && dPlk kvs
  | .ref _ => false
  | .scr _ => false
  | _ => true
def dPls : List D → Bool
  | [] => true
  | d :: ds => dPl d && dPls ds
def dPlk : List (Ky × D) → Bool
  | [] => true
  | (_, d) :: ds => dPl d && dPlk ds
end
theorem dPls_mem {ds : List D} {d : D} (h : dPls ds = true) (m : d ∈ ds) : dPl d = true := by
  induction ds with
  | nil => cases m
  | cons e ds ih =>
    unfold dPls at h
    obtain ⟨h1, h2⟩ := Bool.and_eq_true_iff.mp h
    rcases List.mem_cons.mp m with rfl | m
    · exact h1
    · exact ih h2 m
theorem dPl_items {kvs : List (Ky × D)} (h : dPlk kvs = true) : dPls (itItems kvs) = true := by
  induction kvs with
  | nil => rfl
  | cons kv kvs ih =>
    obtain ⟨k, d⟩ := kv
    unfold dPlk at h
    obtain ⟨h1, h2⟩ := Bool.and_eq_true_iff.mp h
    have e : itItems ((k, d) :: kvs) = .tup [kyD k, d] :: itItems kvs := rfl
    have k1 : dPl (kyD k) = true := by cases k <;> rfl
    rw [e]
    simp only [dPls, dPl, ih h2, h1, k1, Bool.and_self, Bool.and_true]
    rfl
mutual
/-- how deep same goes -/
def dMu : D → Nat
  | .tup ds => dMus ds + 1
  | .lst ds => dMus ds + 1
  | .dct kvs => dMuk kvs + 4
  | _ => 0
def dMus : List D → Nat
  | [] => 0
  | d :: ds => max (dMu d) (dMus ds)
def dMuk : List (Ky × D) → Nat
  | [] => 0
  | (_, d) :: ds => max (dMu d) (dMuk ds)
end
theorem dMu_mem {ds : List D} {d : D} (h : d ∈ ds) : dMu d ≤ dMus ds := by
  induction ds with
  | nil => cases h
  | cons e ds ih =>
    simp only [dMus]
    rcases List.mem_cons.mp h with rfl | h
    · omega
    · have := ih h; omega
theorem dMu_items (kvs : List (Ky × D)) : dMus (itItems kvs) ≤ dMuk kvs + 1 := by
  induction kvs with
  | nil => exact Nat.zero_le _
  | cons kv kvs ih =>
    obtain ⟨k, d⟩ := kv
    have e : itItems ((k, d) :: kvs) = .tup [kyD k, d] :: itItems kvs := rfl
    have k1 : dMu (kyD k) = 0 := by cases k <;> rfl
    rw [e]
    simp only [dMus, dMu, dMuk, k1]
    omega
theorem dMu_sq {d : D} {ds : List D} (h : sqOf d = some ds) : dMu d = dMus ds + 1 := by
  cases d <;> cases h <;> (simp only [dMu])
end Mi
namespace Mi
open PySem
theorem dWts_len (ds : List D) : ds.length ≤ dWts ds := by
  induction ds with
  | nil => exact Nat.zero_le _
  | cons d ds ih => simp only [dWts, List.length_cons]; omega
theorem dWt_mem {ds : List D} {d : D} (h : d ∈ ds) : dWt d ≤ dWts ds := by
  induction ds with
  | nil => cases h
  | cons e ds ih =>
    simp only [dWts]
    rcases List.mem_cons.mp h with rfl | h
    · omega
    · have := ih h; omega
theorem dWt_sq {d : D} {ds : List D} (h : sqOf d = some ds) : dWt d = dWts ds := by
  cases d <;> cases h <;> (simp only [dWt])
theorem dPl_sq {d : D} {ds : List D} (h : sqOf d = some ds) (hp : dPl d = true) : ds.length ≤ LIM ∧ dPls ds = true := by
  cases d <;> cases h <;> (simpa only [dPl, Bool.and_eq_true, decide_eq_true_eq] using hp)
theorem sq_cases {d : D} {ds : List D} (h : sqOf d = some ds) : d = .tup ds ∨ d = .lst ds := by
  cases d <;> cases h
  · exact .inl rfl
  · exact .inr rfl
end Mi
namespace Mi
open PySem
/-- a comprehension that only maps -/
theorem w_compM {α : Type} {C : Ctx} {f : Fr} {S : Store} {E : EX} {vs : List Nat} {t : Tg} {elt : M D} {xs : List α} (g h : α → D) {Q : DX → Fr → Store → Prop} (I : Fr → Prop) (ho : noOwn f vs = true) (hv : outside vs t = true) (h0 : I f) (hlen : xs.length ≤ LIM)
    (step : ∀ a ∈ xs, ∀ f, I f → OW (t.put (g a) (wipeF f vs)) fun f' => RW (elt C f' S) (fun y f S' => y = h a ∧ S' = S ∧ I f) fun _ _ _ _ => False)
    (fin : ∀ f', I f' → Q (.lst (xs.map h), true) (backF f f' vs) S) : RW (compK vs t (mPure true) elt (xs.map g) C f S) Q E := by
  refine w_comp (fun pre post acc f S' => (∃ ys zs : List α, xs = ys ++ zs ∧ pre = ys.map g ∧ post = zs.map g ∧ acc = ys.map h) ∧ S' = S ∧ I f) ho hv ⟨⟨[], xs, rfl, rfl, rfl, rfl⟩, rfl, h0⟩ (by rw [List.length_map]; exact hlen) ?_ ?_
  · intro pre d post acc f S' _ _ ⟨⟨ys, zs, e1, e2, e3, e4⟩, e5, hI⟩
    subst e2 e4 e5
    cases zs with
    | nil => cases e3
    | cons a zs =>
      simp only [List.map_cons, List.cons.injEq] at e3
      obtain ⟨e3, e6⟩ := e3
      subst e3 e6
      obtain ⟨f', p1, p2⟩ := (step a (by rw [e1]; exact List.mem_append_right _ List.mem_cons_self) f hI).elim
      refine .some p1 ?_
      show RW (elt C f' S') _ _
      refine p2.mono (fun y f S2 ⟨q1, q2, q3⟩ => ?_) fun _ _ _ _ z => z
      subst q1 q2
      exact ⟨⟨ys ++ [a], zs, by rw [e1]; simp, by simp, rfl, by simp⟩, rfl, q3⟩
  · intro acc f' S' ⟨⟨ys, zs, e1, e2, e3, e4⟩, e5, hI⟩
    subst e4 e5
    cases zs with
    | cons a zs => cases e3
    | nil =>
      rw [List.append_nil] at e1
      subst e1
      exact fin f' hI
end Mi
namespace Mi
open PySem
theorem pIx_str0 {S : Store} {c : Nat} {r : Tx} (hx : (c :: r).length ≤ LIM) : pIx S (.str (c :: r)) (.int 0) = some (.str [c], false) := by
  show (if (c :: r).length ≤ LIM then (atI (c :: r) 0).map fun c => (D.str [c], false) else none) = _
  rw [if_pos hx]
  obtain ⟨x, _, e, e2⟩ := atI_at (xs := c :: r) (i := 0) (by omega) (by simp only [List.length_cons]; omega)
  rw [e]
  simp at e2
  rw [e2]
  rfl
end Mi
namespace Mi
open PySem
theorem cut_1n {α : Type} (x : List α) : cut x (some 1) none = x.drop 1 := by
  unfold cut sIx
  dsimp only
  rw [if_neg (by omega)]
  cases x with
  | nil => rfl
  | cons a r =>
    rw [show min (Int.toNat 1) (a :: r).length = 1 by simp only [List.length_cons]; show min 1 _ = 1; omega]
    rw [List.take_of_length_le (by simp)]
theorem cut_n1 {α : Type} (x : List α) : cut x none (some 1) = x.take 1 := by
  unfold cut sIx
  dsimp only
  rw [if_neg (by omega)]
  cases x with
  | nil => rfl
  | cons a r =>
    rw [show min (Int.toNat 1) (a :: r).length = 1 by simp only [List.length_cons]; show min 1 _ = 1; omega]
    rfl
theorem pCut_str {S : Store} {x : Tx} {lo hi : Option Int} (hx : x.length ≤ LIM) : pCut S lo hi (.str x) = some (.str (cut x lo hi), false) := by
  show (if x.length ≤ LIM then some (D.str (cut x lo hi), false) else none) = _
  rw [if_pos hx]
/-! ### numbers in texts -/
def DIGc : Tx := txs "0123456789"
where txs (s : Str) : Tx := s.cps.toList
theorem dig_iff {c : Nat} : c ∈ DIGc ↔ 48 ≤ c ∧ c ≤ 57 := by
  have e : DIGc = [48, 49, 50, 51, 52, 53, 54, 55, 56, 57] := rfl
  rw [e]
  simp only [List.mem_cons, List.not_mem_nil, or_false]
  omega
def digB (r : Tx) : Bool := r.all fun c => decide (c ∈ DIGc)
theorem digB_all {r : Tx} (h : digB r = true) : NumText.AllDigits r := fun c hc => dig_iff.mp (of_decide_eq_true (List.all_eq_true.mp h c hc))
/-- a text read as a number: "" is 0, a minus may stand ahead -/
def numT (x : Tx) : Option Int := match x with
  | [] => some 0
  | c :: r => if c = 45 then (if r ≠ [] ∧ digB r = true then some (-(NumText.digitsVal r : Int)) else none) else if digB (c :: r) = true then some (NumText.digitsVal (c :: r)) else none
theorem digitsVal_snoc (y : Tx) (c : Nat) : NumText.digitsVal (y ++ [c]) = NumText.digitsVal y * 10 + (c - 48) := by
  unfold NumText.digitsVal
  rw [List.foldl_append]
  rfl
theorem int_pos {c : Nat} {r : Tx} (h : digB (c :: r) = true) (hl : (c :: r).length ≤ 640) (S : Store) : bInt S (.str (c :: r)) = some (.int (NumText.digitsVal (c :: r)), false) := by
  show (if (c :: r).length ≤ 640 then (PySem.intText? (toStr (c :: r))).map fun n => (D.int n, false) else none) = _
  rw [if_pos hl, PySem.intText_digits (x := toStr (c :: r)) (digB_all h) (by show c :: r ≠ []; simp) (by rw [toStr_len]; omega)]
  rfl
theorem int_neg {r : Tx} (h : digB r = true) (h0 : r ≠ []) (hl : (45 :: r).length ≤ 640) (S : Store) : bInt S (.str (45 :: r)) = some (.int (-(NumText.digitsVal r : Int)), false) := by
  show (if (45 :: r).length ≤ 640 then (PySem.intText? (toStr (45 :: r))).map fun n => (D.int n, false) else none) = _
  rw [if_pos hl, PySem.intText_neg (x := toStr (45 :: r)) (cs := r) rfl (digB_all h) h0 (by rw [toStr_len]; omega)]
  rfl
theorem sIndex_dig {S : Store} {c : Nat} (h : c ∈ DIGc) : sIndex S (.str DIGc) (.str [c]) = some (.int ((c - 48 : Nat) : Int), false) := by
  have h' := dig_iff.mp h
  have hc : c = 48 ∨ c = 49 ∨ c = 50 ∨ c = 51 ∨ c = 52 ∨ c = 53 ∨ c = 54 ∨ c = 55 ∨ c = 56 ∨ c = 57 := by omega
  have key : ∀ i, i < 10 → Builtin.Str.occurrences (toStr DIGc) (toStr [48 + i]) 0 10 1 = [i] := by decide +kernel
  have e := key (c - 48) (by omega)
  rw [show 48 + (c - 48) = c by omega] at e
  show (match Builtin.Str.occurrences (toStr DIGc) (toStr [c]) 0 10 1 with
    | i :: _ => some (D.int (i : Nat), false)
    | [] => none) = _
  rw [e]
end Mi
namespace Mi
open PySem
theorem numT_m (r : Tx) : numT (45 :: r) = if r ≠ [] ∧ digB r = true then some (-(NumText.digitsVal r : Int)) else none := by
  unfold numT
  dsimp only
  rw [if_pos rfl]
theorem numT_o {c : Nat} (r : Tx) (h : c ≠ 45) : numT (c :: r) = if digB (c :: r) = true then some (NumText.digitsVal (c :: r) : Int) else none := by
  unfold numT
  dsimp only
  rw [if_neg h]
end Mi
namespace Mi
open PySem
theorem dQ_str {x : Tx} (h : (x.all fun c => decide (c < 0x110000)) = true) : dQ (.str x) = true := by
  show PyData.canLay0 (.str (toStr x)) = true
  unfold PyData.canLay0
  show (x.toArray.all (· < 0x110000)) = true
  rw [List.all_toArray]
  exact h
end Mi
namespace Mi
open PySem
theorem perm_map {α β : Type} {f : α → β} : ∀ {es l : List β}, es.Perm l → ∀ {xs : List α}, l = xs.map f → ∃ ys : List α, es = ys.map f ∧ ys.Perm xs := by
  intro es l h
  induction h with
  | nil =>
    intro xs e
    cases xs with
    | nil => exact ⟨[], rfl, .refl _⟩
    | cons => cases e
  | cons a _ ih =>
    intro xs e
    cases xs with
    | nil => cases e
    | cons x xs =>
      simp only [List.map_cons, List.cons.injEq] at e
      obtain ⟨ys, e1, e2⟩ := ih e.2
      exact ⟨x :: ys, by rw [List.map_cons, e.1, e1], e2.cons x⟩
  | swap a b l =>
    intro xs e
    match xs, e with
    | x :: y :: xs, e =>
      simp only [List.map_cons, List.cons.injEq] at e
      exact ⟨y :: x :: xs, by simp only [List.map_cons, e.1, e.2.1, e.2.2], .swap _ _ _⟩
  | trans _ _ ih1 ih2 =>
    intro xs e
    obtain ⟨ys, e1, e2⟩ := ih2 e
    obtain ⟨zs, e3, e4⟩ := ih1 e1
    exact ⟨zs, e3, e4.trans e2⟩
theorem asKy_kyD (k : Ky) : asKy (kyD k) = some k := by cases k <;> rfl
theorem pairs_items : ∀ kvs : List (Ky × D), pairs (itItems kvs) = some kvs
  | [] => rfl
  | (k, d) :: kvs => by
    show (match asKy (kyD k), pairs (itItems kvs) with
      | some k', some r => some ((k', d) :: r)
      | _, _ => none) = _
    rw [asKy_kyD, pairs_items kvs]
theorem put_fresh {kvs : List (Ky × D)} {k : Ky} {v : D} (h : k ∉ kvs.map (·.1)) : putKy kvs k v = kvs ++ [(k, v)] := by
  unfold putKy
  rw [if_neg]
  intro hc
  obtain ⟨kv, h1, h2⟩ := List.any_eq_true.mp hc
  exact h (List.mem_map.mpr ⟨kv, h1, of_decide_eq_true h2⟩)
theorem merge_nodup : ∀ (more kvs : List (Ky × D)), ((kvs ++ more).map (·.1)).Nodup → mergeKy kvs more = kvs ++ more
  | [], kvs, _ => by unfold mergeKy; rw [List.append_nil]; rfl
  | (k, v) :: more, kvs, h => by
    have hk : k ∉ kvs.map (·.1) := by
      intro hc
      rw [List.map_append, List.map_cons] at h
      exact (List.nodup_append.mp h).2.2 _ hc _ List.mem_cons_self rfl
    show mergeKy (putKy kvs k v) more = _
    rw [put_fresh hk, merge_nodup more (kvs ++ [(k, v)]) (by simpa using h)]
    simp
theorem bDict_items {S : Store} {kvs : List (Ky × D)} (h : (kvs.map (·.1)).Nodup) : bDict S (.lst (itItems kvs)) = some (.dct kvs, true) := by
  show ((some (itItems kvs)).bind pairs).map _ = _
  rw [Option.bind_some, pairs_items]
  show some (D.dct (mergeKy [] kvs), true) = _
  rw [merge_nodup kvs [] h]
  rfl
theorem valK_mem {kvs : List (Ky × D)} {k : Ky} {d : D} (h : valK kvs k = some d) : (k, d) ∈ kvs := by
  unfold valK at h
  obtain ⟨kv, h1, h2⟩ := Option.map_eq_some_iff.mp h
  have h3 := List.find?_some h1
  have h4 := List.mem_of_find?_eq_some h1
  have e : kv.1 = k := of_decide_eq_true h3
  rw [← e, ← h2]
  exact h4
theorem mem_valK {kvs : List (Ky × D)} {k : Ky} {d : D} (hn : (kvs.map (·.1)).Nodup) (h : (k, d) ∈ kvs) : valK kvs k = some d := by
  induction kvs with
  | nil => cases h
  | cons kv kvs ih =>
    rw [List.map_cons, List.nodup_cons] at hn
    unfold valK
    rw [List.find?_cons]
    rcases List.mem_cons.mp h with rfl | h
    · rw [decide_eq_true rfl]
      rfl
    · have hne : ¬ kv.1 = k := by
        intro e
        exact hn.1 (by rw [e]; exact List.mem_map.mpr ⟨_, h, rfl⟩)
      rw [decide_eq_false hne]
      exact ih hn.2 h
theorem valK_perm {kvs kvs' : List (Ky × D)} (hn : (kvs.map (·.1)).Nodup) (hp : kvs'.Perm kvs) (k : Ky) : valK kvs' k = valK kvs k := by
  have hn' : (kvs'.map (·.1)).Nodup := (hp.map _).nodup_iff.mpr hn
  cases e : valK kvs k with
  | some d => exact mem_valK hn' (hp.symm.subset (valK_mem e))
  | none =>
    cases e' : valK kvs' k with
    | none => rfl
    | some d =>
      have := mem_valK hn (hp.subset (valK_mem e'))
      rw [e] at this
      cases this
end Mi
set_option Elab.async false
set_option linter.all false
set_option maxRecDepth 100000
set_option maxHeartbeats 1000000
namespace Gx
open PySem PySem.Spec PyProof.Rows L2 Mi

def top (i : Nat) : Stmt := PySem.Challenge.pw_everypipe_k08_whole_sums.main.body.getD i (.Pass ⟨0, 0, 0, 0⟩)
def FUEL : Nat := 1000000
def h_bin (op : Operator) : Store → D → D → Option DX := (binOp op).getD fun _ _ _ => none
def k_FIRST : D := .str (txs "abcdefghijklmnopqrstuvwxyz")
def k_LATER : D := .str (txs "abcdefghijklmnopqrstuvwxyz0123456789")
def k_SIGNS : D := .str (txs " !\"#$&'()*+,-./0123456789:;<=>?@ABCDEFGHIJKLMNOPQRSTUVWXYZ[\\]^_`abcdefghijklmnopqrstuvwxyz{|}~")
def k_SIGNS_OF_TWO : D := .tup ((["+", "-", "*", "/", "~", "<", "<=", "="] : List Str).map fun z => .str (txs z))
def fs_0 : List Tx := [txs "total"]
def fs_1 : List Tx := [txs "held"]
def NX : Nat := 2
def N__law_met : List Str := ["_law_ask", "e"]
def m__law_met : MS := (sTry NX (sRet (mTup [(mC (.str (txs "told"))), (mFz mLam)])) [(0, some 1, (sRet (mTup [(mC (.str (txs "sum"))), (mEx 1 (txs "total"))]))), (1, some 1, (sRet (mTup [(mC (.str (txs "values"))), (mEx 1 (txs "held"))])))])
def N_is_integer : List Str := ["thing"]
def m_is_integer : MS := (sRet (mVl (mAndV (mFz (mUn (bIs ["int"]) (.s 0))) (mNotV (mFz (mUn (bIs ["bool"]) (.s 0)))))))
def N_is_list : List Str := ["thing"]
def m_is_list : MS := (sRet (mUn (bIs ["list", "tuple"]) (.s 0)))
def N_is_name : List Str := ["thing", "sign"]
def m_is_name : MS := (sSeq (sIf (mOr (mNot (mTruth (.e (mFz (mUn (bIs ["str"]) (.s 0)))))) (mOr (mNot (mChain (cmpOp .Lt) (cmpOp .Lt) (.e (mC (.int 0))) (.e (mFz (mUn bLen (.s 0)))) (.e (mC (.int 9))))) (mBin (cmpOp .NotIn) (.e (mFz (mBin pIx (.s 0) (.e (mC (.int 0)))))) (.e (mC k_FIRST))))) (sRet (mVl (mC (.bl false)))) sNx) (sRet (mUn bAll (.e (mFz (mComp [1] (.n 1) (mIter (mVar 0)) (mPure true) (mBin (fun S d e => (cmpOp .In S d e).map .bl) (.s 1) (.e (mC k_LATER)))))))))
def N_is_sign : List Str := ["sign"]
def m_is_sign : MS := (sRet (mVl (mBin (fun S d e => (cmpOp .In S d e).map .bl) (.s 0) (.e (mC k_SIGNS)))))
def N_is_text : List Str := ["thing", "sign"]
def m_is_text : MS := (sRet (mVl (mAndV (mFz (mUn (bIs ["str"]) (.s 0))) (mFz (mUn bAll (.e (mFz (mComp [1] (.n 1) (mIter (mVar 0)) (mPure true) (mOrV (mFz (mCall 3 [(mVar 1)])) (mBin (fun S d e => (cmpOp .Eq S d e).map .bl) (.s 1) (.e (mC (.str (txs "\n"))))))))))))))
def N_is_sum : List Str := ["thing"]
def m_is_sum : MS := (sSeq (sIf (mOr (mNot (mTruth (.e (mFz (mCall 1 [(mVar 0)]))))) (mOr (mBin (cmpOp .Lt) (.e (mFz (mUn bLen (.s 0)))) (.e (mC (.int 2)))) (mNot (mTruth (.e (mFz (mUn (bIs ["str"]) (.e (mFz (mBin pIx (.s 0) (.e (mC (.int 0))))))))))))) (sRet (mVl (mC (.bl false)))) sNx) (sSeq (sIf (mBin (cmpOp .Eq) (.e (mFz (mBin pIx (.s 0) (.e (mC (.int 0)))))) (.e (mC (.str (txs "number"))))) (sRet (mVl (mAndV (mBin (fun S d e => (cmpOp .Eq S d e).map .bl) (.e (mFz (mUn bLen (.s 0)))) (.e (mC (.int 2)))) (mAndV (mFz (mCall 0 [(mFz (mBin pIx (.s 0) (.e (mC (.int 1)))))])) (mBl (mChain (cmpOp .LtE) (cmpOp .Lt) (.e (mC (.int 0))) (.e (mFz (mBin pIx (.s 0) (.e (mC (.int 1)))))) (.e (mFz (mBin (h_bin .Pow) (.e (mC (.int 10))) (.e (mC (.int 9)))))))))))) sNx) (sSeq (sIf (mBin (cmpOp .Eq) (.e (mFz (mBin pIx (.s 0) (.e (mC (.int 0)))))) (.e (mC (.str (txs "name"))))) (sRet (mVl (mAndV (mBin (fun S d e => (cmpOp .Eq S d e).map .bl) (.e (mFz (mUn bLen (.s 0)))) (.e (mC (.int 2)))) (mFz (mCall 2 [(mFz (mBin pIx (.s 0) (.e (mC (.int 1)))))]))))) sNx) (sSeq (sIf (mBin (cmpOp .Eq) (.e (mFz (mBin pIx (.s 0) (.e (mC (.int 0)))))) (.e (mC (.str (txs "less"))))) (sRet (mVl (mAndV (mBin (fun S d e => (cmpOp .Eq S d e).map .bl) (.e (mFz (mUn bLen (.s 0)))) (.e (mC (.int 2)))) (mFz (mCall 5 [(mFz (mBin pIx (.s 0) (.e (mC (.int 1)))))]))))) sNx) (sRet (mVl (mAndV (mBin (fun S d e => (cmpOp .In S d e).map .bl) (.e (mFz (mBin pIx (.s 0) (.e (mC (.int 0)))))) (.e (mC k_SIGNS_OF_TWO))) (mAndV (mBin (fun S d e => (cmpOp .Eq S d e).map .bl) (.e (mFz (mUn bLen (.s 0)))) (.e (mC (.int 3)))) (mAndV (mFz (mCall 5 [(mFz (mBin pIx (.s 0) (.e (mC (.int 1)))))])) (mFz (mCall 5 [(mFz (mBin pIx (.s 0) (.e (mC (.int 2)))))])))))))))))
def N_are_values : List Str := ["thing", "name", "text"]
def m_are_values : MS := (sRet (mVl (mAndV (mFz (mUn (bIs ["dict"]) (.s 0))) (mFz (mUn bAll (.e (mFz (compD [1, 2] (.t [1, 2]) 0 itItems (mPure true) (mAndV (mFz (mCall 2 [(mVar 1)])) (mFz (mCall 4 [(mVar 2)])))))))))))
def N_number_in : List Str := ["text", "figures", "sign"]
def m_number_in : MS := (sSeq (sSet 1 (mIf (mBin (cmpOp .Eq) (.e (mFz (mCut (.s 0) mNoPart (mPart (mC (.int 1)))))) (.e (mC (.str (txs "-"))))) (mCut (.s 0) (mPart (mC (.int 1))) mNoPart) (mVl (mVar 0)))) (sSeq (sIf (mBin (cmpOp .Eq) (.s 0) (.e (mC (.str (txs ""))))) (sRet (mVl (mC (.int 0)))) sNx) (sRet (mIf (mAnd (mBin (cmpOp .NotEq) (.s 1) (.e (mC (.str (txs ""))))) (mTruth (.e (mFz (mUn bAll (.e (mFz (mComp [2] (.n 2) (mIter (mVar 1)) (mPure true) (mBin (fun S d e => (cmpOp .In S d e).map .bl) (.s 2) (.e (mC (.str (txs "0123456789"))))))))))))) (mUn bInt (.s 0)) (mVl (mC .non))))))
def N_quotient : List Str := ["one", "other", "found"]
def m_quotient : MS := (sSeq (sSet 2 (mBin (h_bin .FloorDiv) (.e (mFz (mUn bAbs (.s 0)))) (.e (mFz (mUn bAbs (.s 1)))))) (sRet (mIf (mBin (cmpOp .Eq) (.e (mBin (fun S d e => (cmpOp .Lt S d e).map .bl) (.s 0) (.e (mC (.int 0))))) (.e (mBin (fun S d e => (cmpOp .Lt S d e).map .bl) (.s 1) (.e (mC (.int 0)))))) (mVl (mVar 2)) (mUn pNeg (.s 2)))))
def N_joined : List Str := ["sign", "one", "other"]
def m_joined : MS := (sSeq (sIf (mBin (cmpOp .In) (.s 0) (.e (mFz (mTup [(mC (.str (txs "/"))), (mC (.str (txs "~")))])))) (sSeq (sIf (mBin (cmpOp .Eq) (.s 2) (.e (mC (.int 0)))) (sRet (mVl (mC .non))) sNx) (sRet (mIf (mBin (cmpOp .Eq) (.s 0) (.e (mC (.str (txs "/"))))) (mCall 8 [(mVar 1), (mVar 2)]) (mBin (h_bin .Sub) (.s 1) (.e (mFz (mBin (h_bin .Mult) (.s 2) (.e (mFz (mCall 8 [(mVar 1), (mVar 2)])))))))))) sNx) (sSeq (sIf (mBin (cmpOp .In) (.s 0) (.e (mFz (mTup [(mC (.str (txs "+"))), (mC (.str (txs "-")))])))) (sRet (mIf (mBin (cmpOp .Eq) (.s 0) (.e (mC (.str (txs "+"))))) (mBin (h_bin .Add) (.s 1) (.s 2)) (mBin (h_bin .Sub) (.s 1) (.s 2)))) sNx) (sSeq (sIf (mBin (cmpOp .Eq) (.s 0) (.e (mC (.str (txs "*"))))) (sRet (mBin (h_bin .Mult) (.s 1) (.s 2))) sNx) (sRet (mUn bInt (.e (mIf (mBin (cmpOp .Eq) (.s 0) (.e (mC (.str (txs "<"))))) (mBin (fun S d e => (cmpOp .Lt S d e).map .bl) (.s 1) (.s 2)) (mIf (mBin (cmpOp .Eq) (.s 0) (.e (mC (.str (txs "<="))))) (mBin (fun S d e => (cmpOp .LtE S d e).map .bl) (.s 1) (.s 2)) (mBin (fun S d e => (cmpOp .Eq S d e).map .bl) (.s 1) (.s 2))))))))))
def N_value_of_sum : List Str := ["total", "held", "some", "part", "found"]
def m_value_of_sum : MS := (sSeq (sIf (mBin (cmpOp .Eq) (.e (mFz (mBin pIx (.s 0) (.e (mC (.int 0)))))) (.e (mC (.str (txs "number"))))) (sRet (mTup [(mC (.str (txs "number"))), (mFz (mBin pIx (.s 0) (.e (mC (.int 1)))))])) sNx) (sSeq (sIf (mBin (cmpOp .Eq) (.e (mFz (mBin pIx (.s 0) (.e (mC (.int 0)))))) (.e (mC (.str (txs "name"))))) (sSeq (sSet 4 (mCall 7 [(mGet (.s 1) (.e (mFz (mBin pIx (.s 0) (.e (mC (.int 1)))))) (mC (.str (txs ""))))])) (sRet (mIf (mBin (cmpOp .Is) (.s 4) (.e (mC .non))) (mTup [(mC (.str (txs "refused"))), (mFz (mTup [(mC (.str (txs "number"))), (mFz (mBin pIx (.s 0) (.e (mC (.int 1)))))]))]) (mTup [(mC (.str (txs "number"))), (mVar 4)])))) sNx) (sSeq (sSet 2 (mLst [])) (sSeq (sFor (.n 3) (mIter (mFz (mCut (.s 0) (mPart (mC (.int 1))) mNoPart))) (sSeq (sDrop (mMut true 2 [(mFz (mCall 10 [(mVar 3), (mVar 1)]))] hApp)) (sIf (mBin (cmpOp .Eq) (.e (mFz (mBin pIx (.e (mFz (mBin pIx (.s 2) (.e (mFz (mUn pNeg (.e (mC (.int 1))))))))) (.e (mC (.int 0)))))) (.e (mC (.str (txs "refused"))))) (sRet (mBin pIx (.s 2) (.e (mFz (mUn pNeg (.e (mC (.int 1)))))))) sNx))) (sSeq (sIf (mBin (cmpOp .Eq) (.e (mFz (mBin pIx (.s 0) (.e (mC (.int 0)))))) (.e (mC (.str (txs "less"))))) (sRet (mTup [(mC (.str (txs "number"))), (mFz (mUn pNeg (.e (mFz (mBin pIx (.e (mFz (mBin pIx (.s 2) (.e (mC (.int 0)))))) (.e (mC (.int 1))))))))])) sNx) (sSeq (sSet 4 (mCall 9 [(mFz (mBin pIx (.s 0) (.e (mC (.int 0))))), (mFz (mBin pIx (.e (mFz (mBin pIx (.s 2) (.e (mC (.int 0)))))) (.e (mC (.int 1))))), (mFz (mBin pIx (.e (mFz (mBin pIx (.s 2) (.e (mC (.int 1)))))) (.e (mC (.int 1)))))])) (sRet (mIf (mBin (cmpOp .Is) (.s 4) (.e (mC .non))) (mTup [(mC (.str (txs "refused"))), (mFz (mTup [(mC (.str (txs "nought")))]))]) (mTup [(mC (.str (txs "number"))), (mVar 4)])))))))))
def N_sum_value : List Str := ["total", "held"]
def m_sum_value : MS := (sSeq (sIf (mNot (mTruth (.e (mFz (mCall 5 [(mVar 0)]))))) (sRaise 0 fs_0 [(mVar 0)]) sNx) (sSeq (sIf (mNot (mTruth (.e (mFz (mCall 6 [(mVar 1)]))))) (sRaise 1 fs_1 [(mVar 1)]) sNx) (sRet (mCall 10 [(mVar 0), (mVar 1)]))))
def N__law_stream : List Str := ["_law_script", "_law_k", "_law_cell", "_law_mixed_here", "_law_at", "_law_one"]
def m__law_stream : MS := (sSeq (sSet 2 (mIf (mBin (cmpOp .Lt) (.s 1) (.e (mFz (mUn bLen (.s 0))))) (mUn bAbs (.e (mFz (mBin pIx (.s 0) (.s 1))))) (mBin (h_bin .Add) (.e (mFz (mBin (h_bin .Mod) (.e (mFz (mUn bInt (.e (mFz (mUn bSum (.e (mFz (mCut (.s 0) mNoPart (mPart (mC (.int 1)))))))))))) (.e (mC (.int 1000003)))))) (.e (mFz (mBin (h_bin .Mult) (.e (mC (.int 7))) (.s 1))))))) (sSeq (sSet 3 (mBin (h_bin .Mod) (.e (mFz (mUn bSum (.e (mFz (mComp [4, 5] (.t [4, 5]) (mEnum (mVar 0)) (mPure true) (mFz (mBin (h_bin .Mult) (.e (mFz (mBin (h_bin .Add) (.s 4) (.e (mC (.int 1)))))) (.e (mFz (mUn bInt (.e (mFz (mUn bAbs (.s 5))))))))))))))) (.e (mC (.int 2147483647))))) (sRet (mLstS [(mIf (mBin (cmpOp .GtE) (.s 2) (.e (mFz (mBin (h_bin .Pow) (.e (mC (.int 10))) (.e (mC (.int 18))))))) (mVar 2) (mC (.int 0))), (mFz (mBin (h_bin .Add) (.e (mFz (mBin (h_bin .Mod) (.e (mFz (mUn bInt (.e (mFz (mBin (h_bin .Add) (.s 2) (.s 3))))))) (.e (mC (.int 2147483647)))))) (.e (mFz (mBin (h_bin .Mult) (.e (mC (.int 31))) (.s 1)))))), (mC (.int 0))]))))
def N__law_draw : List Str := ["_law_stream_here", "_law_many", "_law_spread", "_law_digit"]
def m__law_draw : MS := (sSeq (sIf (mBin (cmpOp .Gt) (.e (mFz (mBin pIx (.s 0) (.e (mC (.int 0)))))) (.e (mC (.int 0)))) (sSeq (sSet 3 (mBin (h_bin .Mod) (.e (mFz (mUn bInt (.e (mFz (mBin pIx (.s 0) (.e (mC (.int 0))))))))) (.s 1))) (sSeq (sPut 0 (.e (mC (.int 0))) (mFz (mBin (h_bin .FloorDiv) (.e (mFz (mBin pIx (.s 0) (.e (mC (.int 0)))))) (.s 1))) hPut) (sRetV 3))) sNx) (sSeq (sPut 0 (.e (mC (.int 2))) (mFz (mBin (h_bin .Add) (.e (mFz (mBin pIx (.s 0) (.e (mC (.int 2)))))) (.e (mC (.int 1))))) hPut) (sSeq (sSet 2 (mBin (h_bin .Mod) (.e (mFz (mBin (h_bin .Pow) (.e (mFz (mUn bInt (.e (mFz (mBin (h_bin .Add) (.e (mFz (mBin (h_bin .Add) (.e (mFz (mBin pIx (.s 0) (.e (mC (.int 1)))))) (.e (mFz (mBin (h_bin .Mult) (.e (mC (.int 7919))) (.e (mFz (mBin pIx (.s 0) (.e (mC (.int 2)))))))))))) (.e (mC (.int 104729))))))))) (.e (mC (.int 5)))))) (.e (mC (.int 2147483647))))) (sRet (mBin (h_bin .Mod) (.e (mFz (mBin (h_bin .FloorDiv) (.e (mFz (mBin (h_bin .Mod) (.e (mFz (mUn bInt (.e (mFz (mBin (h_bin .Mult) (.e (mFz (mBin (h_bin .Add) (.s 2) (.e (mFz (mBin pIx (.s 0) (.e (mC (.int 2))))))))) (.e (mC (.int 40692))))))))) (.e (mC (.int 2147483629)))))) (.e (mC (.int 7)))))) (.s 1))))))
def N__law_pick : List Str := ["_law_stream_here", "_law_some"]
def m__law_pick : MS := (sRet (mBin pIx (.s 1) (.e (mFz (mCall 13 [(mVar 0), (mFz (mUn bLen (.s 1)))])))))
def N__law_mixed : List Str := ["_law_stream_here", "_law_some", "_law_rest", "_law_found"]
def m__law_mixed : MS := (sSeq (sPar 2 3 (mUn bList (.s 1)) (mLst [])) (sSeq (sWhile FUEL (mBin (cmpOp .NotEq) (.s 2) (.e (mFz (mLst [])))) (sDrop (mMut true 3 [(mMut true 2 [(mFz (mCall 13 [(mVar 0), (mFz (mUn bLen (.s 2)))]))] hPopAt)] hApp))) (sRetV 3)))
def N__law_loose : List Str := ["_law_stream_here", "_law_thing", "_law_found", "_law_each"]
def m__law_loose : MS := (sSeq (sIf (mTruth (.e (mFz (mUn (bIs ["list", "tuple"]) (.s 1))))) (sSeq (sSet 2 (mComp [3] (.n 3) (mIter (mVar 1)) (mPure true) (mFz (mCall 16 [(mVar 0), (mVar 3)])))) (sRet (mIf (mBin (cmpOp .Eq) (.e (mFz (mCall 13 [(mVar 0), (mC (.int 2))]))) (.e (mC (.int 0)))) (mVl (mVar 2)) (mUn bTuple (.s 2))))) sNx) (sRetV 1))
def N__law_same : List Str := ["_law_found", "_law_wanted", "_law_x", "_law_y"]
def m__law_same : MS := (sSeq (sIf (mTruth (.e (mFz (mUn (bIs ["list", "tuple"]) (.s 1))))) (sSeq (sIf (mOr (mBin (cmpOp .NotEq) (.e (mFz (mUn (bIs ["list"]) (.s 0)))) (.e (mFz (mUn (bIs ["list"]) (.s 1))))) (mBin (cmpOp .NotEq) (.e (mFz (mUn (bIs ["tuple"]) (.s 0)))) (.e (mFz (mUn (bIs ["tuple"]) (.s 1)))))) (sRet (mVl (mC (.bl false)))) sNx) (sRet (mVl (mAndV (mBin (fun S d e => (cmpOp .Eq S d e).map .bl) (.e (mFz (mUn bLen (.s 0)))) (.e (mFz (mUn bLen (.s 1))))) (mFz (mUn bAll (.e (mFz (mComp [2, 3] (.t [2, 3]) (mZip (mVar 0) (mVar 1)) (mPure true) (mFz (mCall 17 [(mVar 2), (mVar 3)]))))))))))) sNx) (sSeq (sIf (mTruth (.e (mFz (mUn (bIs ["dict"]) (.s 1))))) (sRet (mVl (mAndV (mFz (mUn (bIs ["dict"]) (.s 0))) (mFz (mCall 17 [(mFz (mUn pItems (.s 0))), (mFz (mUn pItems (.s 1)))]))))) sNx) (sSeq (sIf (mTruth (.e (mFz (mUn (bIs ["int"]) (.s 1))))) (sRet (mVl (mAndV (mFz (mUn (bIs ["int"]) (.s 0))) (mAndV (mBin (fun S d e => (cmpOp .Eq S d e).map .bl) (.e (mFz (mUn (bIs ["bool"]) (.s 0)))) (.e (mFz (mUn (bIs ["bool"]) (.s 1))))) (mBin (fun S d e => (cmpOp .Eq S d e).map .bl) (.s 0) (.s 1)))))) sNx) (sRet (mVl (mAndV (mNotV (mFz (mUn (bIs ["int", "list", "tuple", "dict"]) (.s 0)))) (mBin (fun S d e => (cmpOp .Eq S d e).map .bl) (.s 0) (.s 1))))))))
def N__law_sum : List Str := ["_law_stream_here", "_law_deep", "_law_most", "_law_signs", "_law_one", "_law_name", "_law_number_here"]
def m__law_sum : MS := (sSeq (sIf (mOr (mBin (cmpOp .Eq) (.s 1) (.e (mC (.int 0)))) (mBin (cmpOp .Eq) (.e (mFz (mCall 13 [(mVar 0), (mC (.int 4))]))) (.e (mC (.int 0))))) (sSeq (sSet 5 (mCall 14 [(mVar 0), (mFz (mLst [(mC (.str (txs "x"))), (mC (.str (txs "y2"))), (mC (.str (txs "eightsgn"))), (mC (.str (txs "z"))), (mC (.str (txs "nobody")))]))])) (sSeq (sSet 6 (mCall 14 [(mVar 0), (mFz (mLst [(mC (.int 0)), (mC (.int 1)), (mC (.int 7)), (mFz (mBin (h_bin .Sub) (.s 2) (.e (mC (.int 1))))), (mFz (mCall 13 [(mVar 0), (mVar 2)]))]))])) (sRet (mIf (mBin (cmpOp .Eq) (.e (mFz (mCall 13 [(mVar 0), (mC (.int 2))]))) (.e (mC (.int 0)))) (mTup [(mC (.str (txs "name"))), (mVar 5)]) (mTup [(mC (.str (txs "number"))), (mVar 6)]))))) sNx) (sSeq (sIf (mBin (cmpOp .Eq) (.e (mFz (mCall 13 [(mVar 0), (mC (.int 6))]))) (.e (mC (.int 0)))) (sRet (mTup [(mC (.str (txs "less"))), (mFz (mCall 19 [(mVar 0), (mFz (mBin (h_bin .Sub) (.s 1) (.e (mC (.int 1))))), (mVar 2)]))])) sNx) (sSeq (sSet 3 (mBin (h_bin .Add) (.e (mFz (mLst [(mC (.str (txs "+"))), (mC (.str (txs "-"))), (mC (.str (txs "<"))), (mC (.str (txs "<="))), (mC (.str (txs "=")))]))) (.e (mFz (mBin (h_bin .Mult) (.e (mFz (mLst [(mC (.str (txs "*"))), (mC (.str (txs "/"))), (mC (.str (txs "~"))), (mC (.str (txs "/"))), (mC (.str (txs "~")))]))) (.e (mFz (mUn bInt (.e (mBin (fun S d e => (cmpOp .Lt S d e).map .bl) (.s 2) (.e (mC (.int 1001))))))))))))) (sSeq (sSet 4 (mCall 19 [(mVar 0), (mFz (mBin (h_bin .Sub) (.s 1) (.e (mC (.int 1))))), (mVar 2)])) (sRet (mTup [(mFz (mCall 14 [(mVar 0), (mVar 3)])), (mVar 4), (mFz (mCall 19 [(mVar 0), (mFz (mBin (h_bin .Sub) (.s 1) (.e (mC (.int 1))))), (mVar 2)]))]))))))
def N__law_held : List Str := ["_law_stream_here", "_law_most", "_law_found", "_law_name", "_law_number_here", "_law_some", "_law_odd"]
def m__law_held : MS := (sSeq (sSet 2 (mDct [])) (sSeq (sFor (.n 3) (mIter (mFz (mCut (.e (mFz (mCall 15 [(mVar 0), (mFz (mLst [(mC (.str (txs "x"))), (mC (.str (txs "y2"))), (mC (.str (txs "eightsgn"))), (mC (.str (txs "z")))]))]))) mNoPart (mPart (mFz (mCall 14 [(mVar 0), (mFz (mLst [(mC (.int 4)), (mC (.int 4)), (mC (.int 3)), (mC (.int 0))]))])))))) (sSeq (sSet 4 (mCall 13 [(mVar 0), (mVar 1)])) (sSeq (sSet 5 (mLst [(mFz (mUn bStr (.s 4))), (mFz (mUn bStr (.s 4))), (mFz (mBin (h_bin .Add) (.e (mC (.str (txs "-")))) (.e (mFz (mUn bStr (.s 4)))))), (mC (.str (txs ""))), (mC (.str (txs "0"))), (mC (.str (txs "-0"))), (mFz (mCut (.e (mC (.str (txs "007")))) mNoPart (mPart (mFz (mUn bLen (.e (mFz (mUn bStr (.e (mFz (mBin (h_bin .Sub) (.s 1) (.e (mC (.int 1))))))))))))))])) (sSeq (sSet 6 (mCall 14 [(mVar 0), (mFz (mLst [(mC (.str (txs "a"))), (mC (.str (txs "-"))), (mC (.str (txs "--1"))), (mC (.str (txs " 7"))), (mC (.str (txs "7 "))), (mC (.str (txs "1-"))), (mC (.str (txs "+1"))), (mC (.str (txs "1.0"))), (mC (.str (txs "0x1")))]))])) (sPut 2 (.s 3) (mFz (mIf (mBin (cmpOp .Eq) (.e (mFz (mCall 13 [(mVar 0), (mC (.int 9))]))) (.e (mC (.int 0)))) (mVl (mVar 6)) (mCall 14 [(mVar 0), (mVar 5)]))) hPut))))) (sRetV 2)))
def N__law_number : List Str := ["_law_text", "_law_sign", "_law_left", "_law_found"]
def m__law_number : MS := (sSeq (sIf (mBin (cmpOp .Eq) (.s 0) (.e (mC (.str (txs ""))))) (sRet (mVl (mC (.int 0)))) sNx) (sSeq (sPar 2 3 (mIf (mBin (cmpOp .Eq) (.e (mFz (mBin pIx (.s 0) (.e (mC (.int 0)))))) (.e (mC (.str (txs "-"))))) (mCut (.s 0) (mPart (mC (.int 1))) mNoPart) (mVl (mVar 0))) (mVl (mC (.int 0)))) (sSeq (sFor (.n 1) (mIter (mVar 2)) (sSeq (sIf (mBin (cmpOp .NotIn) (.s 1) (.e (mC (.str (txs "0123456789"))))) (sRet (mVl (mC .non))) sNx) (sSet 3 (mBin (h_bin .Add) (.e (mFz (mBin (h_bin .Mult) (.e (mC (.int 10))) (.s 3)))) (.e (mFz (mMeth1 "str" sIndex (.e (mC (.str (txs "0123456789")))) (.s 1)))))))) (sSeq (sIf (mBin (cmpOp .Eq) (.s 2) (.e (mC (.str (txs ""))))) (sRet (mVl (mC .non))) sNx) (sRet (mIf (mBin (cmpOp .Eq) (.e (mFz (mBin pIx (.s 0) (.e (mC (.int 0)))))) (.e (mC (.str (txs "-"))))) (mBin (h_bin .Sub) (.e (mC (.int 0))) (.s 3)) (mVl (mVar 3))))))))
def N__law_worth : List Str := ["_law_total", "_law_held_here", "_law_word", "_law_parts", "_law_wrong", "_law_number_here", "_law_one", "_law_other", "_law_part"]
def m__law_worth : MS := (sSeq (sSet 2 (mBin pIx (.s 0) (.e (mC (.int 0))))) (sSeq (sIf (mBin (cmpOp .Eq) (.s 2) (.e (mC (.str (txs "number"))))) (sRet (mTup [(mC (.str (txs "number"))), (mFz (mBin pIx (.s 0) (.e (mC (.int 1)))))])) sNx) (sSeq (sIf (mBin (cmpOp .Eq) (.s 2) (.e (mC (.str (txs "name"))))) (sSeq (sSet 5 (mCall 21 [(mGet (.s 1) (.e (mFz (mBin pIx (.s 0) (.e (mC (.int 1)))))) (mC (.str (txs ""))))])) (sRet (mIf (mBin (cmpOp .Is) (.s 5) (.e (mC .non))) (mTup [(mC (.str (txs "refused"))), (mFz (mTup [(mC (.str (txs "number"))), (mFz (mBin pIx (.s 0) (.e (mC (.int 1)))))]))]) (mTup [(mC (.str (txs "number"))), (mVar 5)])))) sNx) (sSeq (sSet 3 (mComp [8] (.n 8) (mIter (mFz (mCut (.s 0) (mPart (mC (.int 1))) mNoPart))) (mPure true) (mFz (mCall 22 [(mVar 8), (mVar 1)])))) (sSeq (sSet 4 (mComp [8] (.n 8) (mIter (mVar 3)) (mBin (cmpOp .Eq) (.e (mFz (mBin pIx (.s 8) (.e (mC (.int 0)))))) (.e (mC (.str (txs "refused"))))) (mVar 8))) (sSeq (sIf (mBin (cmpOp .NotEq) (.s 4) (.e (mFz (mLst [])))) (sRet (mBin pIx (.s 4) (.e (mC (.int 0))))) sNx) (sSeq (sPar 6 7 (mBin pIx (.e (mFz (mBin pIx (.s 3) (.e (mC (.int 0)))))) (.e (mC (.int 1)))) (mBin pIx (.e (mFz (mBin pIx (.s 3) (.e (mFz (mUn pNeg (.e (mC (.int 1))))))))) (.e (mC (.int 1))))) (sSeq (sIf (mBin (cmpOp .Eq) (.s 2) (.e (mC (.str (txs "less"))))) (sRet (mTup [(mC (.str (txs "number"))), (mFz (mBin (h_bin .Sub) (.e (mC (.int 0))) (.s 6)))])) sNx) (sSeq (sIf (mBin (cmpOp .In) (.s 2) (.e (mFz (mTup [(mC (.str (txs "/"))), (mC (.str (txs "~")))])))) (sRet (mCall 23 [(mVar 2), (mVar 6), (mVar 7)])) sNx) (sSeq (sIf (mBin (cmpOp .In) (.s 2) (.e (mFz (mTup [(mC (.str (txs "<"))), (mC (.str (txs "<="))), (mC (.str (txs "=")))])))) (sRet (mTup [(mC (.str (txs "number"))), (mFz (mIf (mBin (cmpOp .NotEq) (.s 2) (.e (mC (.str (txs "="))))) (mUn bInt (.e (mOrV (mBin (fun S d e => (cmpOp .Lt S d e).map .bl) (.s 6) (.s 7)) (mAndV (mBin (fun S d e => (cmpOp .NotEq S d e).map .bl) (.s 2) (.e (mC (.str (txs "<"))))) (mBin (fun S d e => (cmpOp .Eq S d e).map .bl) (.s 6) (.s 7)))))) (mUn bInt (.e (mBin (fun S d e => (cmpOp .Eq S d e).map .bl) (.s 6) (.s 7))))))])) sNx) (sRet (mTup [(mC (.str (txs "number"))), (mFz (mIf (mBin (cmpOp .Eq) (.s 2) (.e (mC (.str (txs "+"))))) (mBin (h_bin .Add) (.s 6) (.s 7)) (mIf (mBin (cmpOp .Eq) (.s 2) (.e (mC (.str (txs "-"))))) (mBin (h_bin .Sub) (.s 6) (.s 7)) (mBin (h_bin .Mult) (.s 6) (.s 7)))))]))))))))))))
def N__law_parted : List Str := ["_law_word", "_law_one", "_law_other", "_law_often"]
def m__law_parted : MS := (sSeq (sIf (mBin (cmpOp .Eq) (.s 2) (.e (mC (.int 0)))) (sRet (mTup [(mC (.str (txs "refused"))), (mFz (mTup [(mC (.str (txs "nought")))]))])) sNx) (sSeq (sSet 3 (mBin (h_bin .FloorDiv) (.e (mFz (mUn bAbs (.s 1)))) (.e (mFz (mUn bAbs (.s 2)))))) (sSeq (sSet 3 (mIf (mBin (cmpOp .Eq) (.e (mBin (fun S d e => (cmpOp .Lt S d e).map .bl) (.s 1) (.e (mC (.int 0))))) (.e (mBin (fun S d e => (cmpOp .Lt S d e).map .bl) (.s 2) (.e (mC (.int 0)))))) (mVl (mVar 3)) (mBin (h_bin .Sub) (.e (mC (.int 0))) (.s 3)))) (sRet (mTup [(mC (.str (txs "number"))), (mFz (mIf (mBin (cmpOp .Eq) (.s 0) (.e (mC (.str (txs "/"))))) (mVl (mVar 3)) (mBin (h_bin .Sub) (.s 1) (.e (mFz (mBin (h_bin .Mult) (.s 3) (.s 2)))))))])))))
def N__law_one_right : List Str := ["_law_stream_here", "_law_total", "_law_held_here", "_law_was", "_law_handed", "_law_due"]
def m__law_one_right : MS := (sSeq (sPar 4 5 (mLst [(mFz (mCall 16 [(mVar 0), (mVar 1)])), (mFz (mUn bDict (.e (mFz (mCall 15 [(mVar 0), (mFz (mUn pItems (.s 2)))])))))]) (mCall 22 [(mVar 1), (mVar 2)])) (sSeq (sSet 3 (mUn bRepr (.s 4))) (sSeq (sIf (mNot (mTruth (.e (mFz (mCall 17 [(mFz (mLst [(mFz (mCall 11 [(mFz (mBin pIx (.s 4) (.e (mC (.int 0))))), (mFz (mBin pIx (.s 4) (.e (mC (.int 1)))))])), (mFz (mCallK 11 [1, 0] [] [(mVar 2), (mVar 1)]))])), (mFz (mLst [(mVar 5), (mVar 5)]))]))))) (sRet (mVl (mC (.bl false)))) sNx) (sRet (mVl (mBin (fun S d e => (cmpOp .Eq S d e).map .bl) (.e (mFz (mUn bRepr (.s 4)))) (.s 3)))))))
def N__law_refused_right : List Str := ["_law_stream_here", "_law_total", "_law_odds", "_law_odd", "_law_some"]
def m__law_refused_right : MS := (sSeq (sSet 2 (mLst [(mC .non), (mC (.int 5)), (mC (.str (txs "x"))), (mFz (mLst [])), (mFz (mTup [])), (mFz (mDct [])), (mC (.bl true)), (mFz (mTup [(mC (.str (txs "number")))])), (mFz (mTup [(mC (.str (txs "number"))), (mFz (mUn pNeg (.e (mC (.int 1)))))])), (mFz (mTup [(mC (.str (txs "number"))), (mC (.bl true))])), (mFz (mTup [(mC (.str (txs "number"))), (mC (.str (txs "1")))])), (mFz (mTup [(mC (.str (txs "nought")))]))])) (sSeq (sDrop (mMut true 2 [(mFz (mLst [(mFz (mTup [(mC (.str (txs "number"))), (mFz (mBin (h_bin .Pow) (.e (mC (.int 10))) (.e (mC (.int 9)))))])), (mFz (mTup [(mC (.str (txs "number"))), (mC (.int 1)), (mC (.int 2))])), (mFz (mTup [(mC (.str (txs "name"))), (mC (.str (txs "X")))])), (mFz (mTup [(mC (.str (txs "name"))), (mC (.int 5))])), (mFz (mTup [(mC (.str (txs "name")))])), (mFz (mTup [(mC (.str (txs "name"))), (mC (.str (txs "ninesigns")))]))]))] hExt)) (sSeq (sDrop (mMut true 2 [(mFz (mLst [(mFz (mTup [(mC (.str (txs "less")))])), (mFz (mTup [(mC (.str (txs "less"))), (mVar 1), (mVar 1)])), (mFz (mTup [(mC (.str (txs "+"))), (mVar 1)])), (mFz (mTup [(mC (.str (txs "+"))), (mVar 1), (mVar 1), (mVar 1)])), (mFz (mTup [(mC (.str (txs "!"))), (mVar 1), (mVar 1)]))]))] hExt)) (sSeq (sDrop (mMut true 2 [(mFz (mLst [(mFz (mTup [(mC (.str (txs "*"))), (mVar 1), (mC .non)])), (mFz (mTup [(mC (.str (txs "<"))), (mC .non), (mVar 1)])), (mFz (mTup [(mC (.str (txs "less"))), (mC (.int 5))])), (mFz (mTup [(mFz (mLst [(mC (.str (txs "number")))])), (mC (.int 1))])), (mFz (mTup [(mC (.str (txs "=="))), (mVar 1), (mVar 1)]))]))] hExt)) (sSeq (sFor (.n 3) (mIter (mVar 2)) (sFor (.n 4) (mIter (mFz (mIf (mBin (cmpOp .IsNot) (.s 3) (.e (mC .non))) (mTup [(mVar 3), (mFz (mTup [(mC (.str (txs "+"))), (mVar 1), (mVar 3)]))]) (mTup [(mVar 3)])))) (sIf (mNot (mTruth (.e (mFz (mCall 17 [(mFz (mLamCall 2 m__law_met (mCall 11 [(mVar 4), (mC .non)]))), (mFz (mTup [(mC (.str (txs "sum"))), (mVar 4)]))]))))) (sRet (mVl (mC (.bl false)))) sNx))) (sSeq (sSet 2 (mLst [(mC .non), (mC (.int 5)), (mFz (mLst [])), (mC (.str (txs "x"))), (mC (.bl true)), (mFz (mDct [((mC (.str (txs "X"))), (mC (.str (txs "1"))))])), (mFz (mDct [((mC (.int 5)), (mC (.str (txs "1"))))])), (mFz (mDct [((mC (.str (txs "x"))), (mC (.int 5)))])), (mFz (mDct [((mC (.str (txs "x"))), (mC .non))])), (mFz (mDct [((mC (.str (txs "x"))), (mFz (mLst [(mC (.str (txs "1")))])))])), (mFz (mDct [((mC (.str (txs ""))), (mC (.str (txs "1"))))]))])) (sSeq (sFor (.n 3) (mIter (mVar 2)) (sIf (mNot (mTruth (.e (mFz (mCall 17 [(mFz (mLamCall 2 m__law_met (mCall 11 [(mVar 1), (mVar 3)]))), (mFz (mTup [(mC (.str (txs "values"))), (mVar 3)]))]))))) (sRet (mVl (mC (.bl false)))) sNx)) (sRet (mVl (mC (.bl true)))))))))))
def N_law : List Str := ["_law_script", "_law_turn", "_law_stream_here", "_law_most", "_law_one", "_law_other", "_law_parts", "_law_word", "_law_held_here", "_law_sums", "_law_total", "_law_due", "_law_k"]
def m_law : MS := (sSeq (sFor (.n 1) (mRange1 (mC (.int 4))) (sSeq (sSet 2 (mCall 12 [(mVar 0), (mVar 1)])) (sSeq (sFor (.n 3) (mIter (mFz (mTup [(mC (.int 10)), (mC (.int 1000)), (mFz (mBin (h_bin .Pow) (.e (mC (.int 10))) (.e (mC (.int 9)))))]))) (sSeq (sSet 8 (mCall 20 [(mVar 2), (mVar 3)])) (sSeq (sSet 9 (mComp [12] (.n 12) (mRange1 (mC (.int 5))) (mPure true) (mFz (mCall 19 [(mVar 2), (mFz (mBin (h_bin .Add) (.e (mC (.int 1))) (.e (mFz (mCall 13 [(mVar 2), (mC (.int 3))]))))), (mVar 3)])))) (sFor (.n 10) (mIter (mFz (mBin (h_bin .Add) (.s 9) (.e (mFz (mCut (.s 9) mNoPart (mPart (mC (.int 1))))))))) (sIf (mNot (mTruth (.e (mFz (mCall 24 [(mVar 2), (mVar 10), (mVar 8)]))))) (sRet (mVl (mC (.bl false)))) sNx))))) (sIf (mNot (mTruth (.e (mFz (mCall 25 [(mVar 2), (mFz (mBin pIx (.s 9) (.e (mC (.int 0)))))]))))) (sRet (mVl (mC (.bl false)))) sNx)))) (sSeq (sFor (.t [4, 5]) (mIter (mFz (mTup [(mFz (mTup [(mC (.int 7)), (mC (.int 2))])), (mFz (mTup [(mFz (mUn pNeg (.e (mC (.int 7))))), (mC (.int 2))])), (mFz (mTup [(mC (.int 7)), (mFz (mUn pNeg (.e (mC (.int 2)))))])), (mFz (mTup [(mFz (mUn pNeg (.e (mC (.int 7))))), (mFz (mUn pNeg (.e (mC (.int 2)))))])), (mFz (mTup [(mC (.int 6)), (mC (.int 3))])), (mFz (mTup [(mC (.int 0)), (mFz (mUn pNeg (.e (mC (.int 5)))))]))]))) (sSeq (sSet 6 (mLst [(mFz (mIf (mBin (cmpOp .GtE) (.s 4) (.e (mC (.int 0)))) (mTup [(mC (.str (txs "number"))), (mFz (mUn bAbs (.s 4)))]) (mTup [(mC (.str (txs "less"))), (mFz (mTup [(mC (.str (txs "number"))), (mFz (mBin (h_bin .Sub) (.e (mC (.int 0))) (.s 4)))]))]))), (mFz (mTup [(mC (.str (txs "name"))), (mC (.str (txs "x")))]))])) (sFor (.n 7) (mIter (mFz (mTup [(mC (.str (txs "/"))), (mC (.str (txs "~")))]))) (sSeq (sSet 11 (mCall 23 [(mVar 7), (mVar 4), (mVar 5)])) (sIf (mNot (mTruth (.e (mFz (mCall 17 [(mFz (mCall 11 [(mFz (mTup [(mVar 7), (mFz (mBin pIx (.s 6) (.e (mC (.int 0))))), (mFz (mBin pIx (.s 6) (.e (mC (.int 1)))))])), (mFz (mDct [((mC (.str (txs "x"))), (mFz (mUn bStr (.s 5))))]))])), (mVar 11)]))))) (sRet (mVl (mC (.bl false)))) sNx))))) (sRet (mCall 17 [(mFz (mCall 11 [(mFz (mTup [(mC (.str (txs "/"))), (mFz (mTup [(mC (.str (txs "name"))), (mC (.str (txs "a")))])), (mFz (mTup [(mC (.str (txs "number"))), (mC (.int 0))]))])), (mFz (mDct [((mC (.str (txs "a"))), (mC (.str (txs "-"))))]))])), (mFz (mTup [(mC (.str (txs "refused"))), (mFz (mTup [(mC (.str (txs "number"))), (mC (.str (txs "a")))]))]))]))))
end Gx
set_option Elab.async false
set_option linter.all false
set_option maxRecDepth 100000
set_option maxHeartbeats 4000000
namespace Gx
open PySem PySem.Spec PyProof.Rows L2 Mi

def BLS : List Str := ["abs", "all", "bool", "dict", "enumerate", "int", "isinstance", "len", "list", "range", "repr", "str", "sum", "super", "tuple", "zip"]
structure Env0 (g : G) : Prop where
  sys : SysK g.K
  hb : ∀ x, x ∈ BLS → g.mg x = none
  k_FIRST : GStr g "FIRST" "abcdefghijklmnopqrstuvwxyz"
  k_LATER : GStr g "LATER" "abcdefghijklmnopqrstuvwxyz0123456789"
  k_SIGNS : GStr g "SIGNS" " !\"#$&'()*+,-./0123456789:;<=>?@ABCDEFGHIJKLMNOPQRSTUVWXYZ[\\]^_`abcdefghijklmnopqrstuvwxyz{|}~"
  k_SIGNS_OF_TWO : GTup g "SIGNS_OF_TWO" ["+", "-", "*", "/", "~", "<", "<=", "="]
  nx : ∀ k, k < NX → ∃ a, g.exc k = some a
  x_0 : g.exc 0 = some (("BadSum" : Str), fs_0)
  x_1 : g.exc 1 = some (("BadValues" : Str), fs_1)
  t_is_integer : TD g 0 "is_integer" (top 4) ["thing"]
  t_is_list : TD g 1 "is_list" (top 5) ["thing"]
  t_is_name : TD g 2 "is_name" (top 6) ["thing"]
  t_is_sign : TD g 3 "is_sign" (top 13) ["sign"]
  t_is_text : TD g 4 "is_text" (top 14) ["thing"]
  t_is_sum : TD g 5 "is_sum" (top 15) ["thing"]
  t_are_values : TD g 6 "are_values" (top 17) ["thing"]
  t_number_in : TD g 7 "number_in" (top 18) ["text"]
  t_quotient : TD g 8 "quotient" (top 19) ["one", "other"]
  t_joined : TD g 9 "joined" (top 20) ["sign", "one", "other"]
  t_value_of_sum : TD g 10 "value_of_sum" (top 21) ["total", "held"]
  t_sum_value : TD g 11 "sum_value" (top 22) ["total", "held"]
  t__law_stream : TD g 12 "_law_stream" (top 24) ["_law_script", "_law_k"]
  t__law_draw : TD g 13 "_law_draw" (top 25) ["_law_stream_here", "_law_many"]
  t__law_pick : TD g 14 "_law_pick" (top 26) ["_law_stream_here", "_law_some"]
  t__law_mixed : TD g 15 "_law_mixed" (top 27) ["_law_stream_here", "_law_some"]
  t__law_loose : TD g 16 "_law_loose" (top 28) ["_law_stream_here", "_law_thing"]
  t__law_same : TD g 17 "_law_same" (top 29) ["_law_found", "_law_wanted"]
  t__law_met : TD g 18 "_law_met" (top 30) ["_law_ask"]
  t__law_sum : TD g 19 "_law_sum" (top 31) ["_law_stream_here", "_law_deep", "_law_most"]
  t__law_held : TD g 20 "_law_held" (top 32) ["_law_stream_here", "_law_most"]
  t__law_number : TD g 21 "_law_number" (top 33) ["_law_text"]
  t__law_worth : TD g 22 "_law_worth" (top 34) ["_law_total", "_law_held_here"]
  t__law_parted : TD g 23 "_law_parted" (top 35) ["_law_word", "_law_one", "_law_other"]
  t__law_one_right : TD g 24 "_law_one_right" (top 36) ["_law_stream_here", "_law_total", "_law_held_here"]
  t__law_refused_right : TD g 25 "_law_refused_right" (top 37) ["_law_stream_here", "_law_total"]
  t_law : TD g 26 "law" (top 38) ["_law_script"]
theorem hN__law_met : N__law_met.Nodup := by decide
theorem sc__law_met : FnScope N__law_met ["_law_ask"] (defScope (top 30)) := ⟨rfl, rfl, rfl, by decide +kernel, rfl, by decide +kernel, by decide +kernel⟩
theorem b__law_met {X : Cx} {W : WX} {g : G} (z : Env0 g) (hN : N__law_met.Nodup) {lm : Addr × Addr × Str} {lf : Store → CR} {Fg : Hp} {rg : List Addr} (c : Mi.Good X W (g.met lm lf Fg rg) ⟨defScope (top 30), N__law_met, fun _ => true⟩) (fr : Frm X) (hl : ∀ (pn : List (Addr × Obj)) (xe : Value → Shared → Prop) (W' : WX) (p1 p2 : Pos), Takes (X.tr pn xe) W' → PE (X.tr pn xe) (.Call (.Name "_law_ask" p1) [] [] p2) (tX (g.met lm lf Fg rg) W' mLam)) : PSs X (defBody (top 30)) (tS (g.met lm lf Fg rg) W m__law_met) :=
  (snd_one (snd_try c fr hN (fun pn1 xe1 Wt1 ct1 fr => (snd_one (snd_ret (snd_tup (snd_cons (snd_str (toStr_mk _).symm) (snd_cons (PE.fz (hl pn1 xe1 Wt1 _ _ ct1.tk)) snd_nil)))))) (.consAs z.x_0 (by show _ = _; rfl) (by decide) (i := 1) rfl rfl (fun a oe dd pn hz hf => (snd_one (snd_ret (snd_tup (snd_cons (snd_str (toStr_mk _).symm) (snd_cons (snd_exf c z.x_0 hz hf (show _ ∈ fs_0 from (.head _)) (toStr_mk _).symm (i := 1) rfl (by first | exact .inl rfl | exact .inr (.inl rfl) | exact .inr (.inr rfl))) snd_nil)))))) (.consAs z.x_1 (by show _ = _; rfl) (by decide) (i := 1) rfl rfl (fun a oe dd pn hz hf => (snd_one (snd_ret (snd_tup (snd_cons (snd_str (toStr_mk _).symm) (snd_cons (snd_exf c z.x_1 hz hf (show _ ∈ fs_1 from (.head _)) (toStr_mk _).symm (i := 1) rfl (by first | exact .inl rfl | exact .inr (.inl rfl) | exact .inr (.inr rfl))) snd_nil)))))) .nil)) z.nx))
theorem hN_is_integer : N_is_integer.Nodup := by decide
theorem sc_is_integer : FnScope N_is_integer ["thing"] (defScope (top 4)) := ⟨rfl, rfl, rfl, by decide +kernel, rfl, by decide +kernel, by decide +kernel⟩
theorem b_is_integer {X : Cx} {W : WX} {g : G} (z : Env0 g) (hN : N_is_integer.Nodup) (c : Good X W g ⟨defScope (top 4), N_is_integer, fun _ => true⟩) (fr : Frm X) : PSs X (defBody (top 4)) (tS g W m_is_integer) :=
  (snd_one (snd_ret (PE.vl (snd_andV c (PE.fz (snd_is1 c (by show _ = _; rfl) (z.hb _ (by decide)) (by show _ = _; rfl) (z.hb _ (by decide)) rfl (snd_op c (i := 0) rfl (by first | exact .inl rfl | exact .inr (.inl rfl) | exact .inr (.inr rfl))))) (snd_orV1 (snd_notV c (PE.fz (snd_is1 c (by show _ = _; rfl) (z.hb _ (by decide)) (by show _ = _; rfl) (z.hb _ (by decide)) rfl (snd_op c (i := 0) rfl (by first | exact .inl rfl | exact .inr (.inl rfl) | exact .inr (.inr rfl)))))))))))
theorem hN_is_list : N_is_list.Nodup := by decide
theorem sc_is_list : FnScope N_is_list ["thing"] (defScope (top 5)) := ⟨rfl, rfl, rfl, by decide +kernel, rfl, by decide +kernel, by decide +kernel⟩
theorem b_is_list {X : Cx} {W : WX} {g : G} (z : Env0 g) (hN : N_is_list.Nodup) (c : Good X W g ⟨defScope (top 5), N_is_list, fun _ => true⟩) (fr : Frm X) : PSs X (defBody (top 5)) (tS g W m_is_list) :=
  (snd_one (snd_ret (snd_isT c (by show _ = _; rfl) (z.hb _ (by decide)) (.cons (by show _ = _; rfl) (z.hb _ (by decide)) rfl (by decide) (by decide) (.cons (by show _ = _; rfl) (z.hb _ (by decide)) rfl (by decide) (by decide) .nil)) (by decide) (snd_op c (i := 0) rfl (by first | exact .inl rfl | exact .inr (.inl rfl) | exact .inr (.inr rfl))))))
theorem hN_is_name : N_is_name.Nodup := by decide
theorem sc_is_name : FnScope N_is_name ["thing"] (defScope (top 6)) := ⟨rfl, rfl, rfl, by decide +kernel, rfl, by decide +kernel, by decide +kernel⟩
theorem b_is_name {X : Cx} {W : WX} {g : G} (z : Env0 g) (hN : N_is_name.Nodup) (c : Good X W g ⟨defScope (top 6), N_is_name, fun _ => true⟩) (fr : Frm X) : PSs X (defBody (top 6)) (tS g W m_is_name) :=
  (snd_seq (snd_if (snd_bt (snd_or (snd_not (snd_truth c (snd_e (PE.fz (snd_is1 c (by show _ = _; rfl) (z.hb _ (by decide)) (by show _ = _; rfl) (z.hb _ (by decide)) rfl (snd_op c (i := 0) rfl (by first | exact .inl rfl | exact .inr (.inl rfl) | exact .inr (.inr rfl)))))) (fun _ => rfl))) (snd_or (snd_not (snd_chainT (cmpOp_ok c.K c.un _) (cmpOp_ok c.K c.un _) rfl (snd_e snd_int) (snd_e (PE.fz (snd_len c (by show _ = _; rfl) (z.hb _ (by decide)) (snd_op c (i := 0) rfl (by first | exact .inl rfl | exact .inr (.inl rfl) | exact .inr (.inr rfl)))))) (snd_e snd_int))) (snd_or1 (snd_cmpT (cmpOp_ok c.K c.un _) rfl (snd_e (PE.fz (snd_ix c (snd_op c (i := 0) rfl (by first | exact .inl rfl | exact .inr (.inl rfl) | exact .inr (.inr rfl))) (snd_e snd_int)))) (snd_e (snd_gstr c z.k_FIRST (by show _ = _; rfl)))))))) (snd_one (snd_ret (PE.vl snd_bl))) snd_nils) (snd_one (snd_ret (snd_all c (by show _ = _; rfl) (z.hb _ (by decide)) (snd_e (PE.fz (snd_comp c hN (own := [("sign", 1)]) (snd_iter c (snd_var c (i := 0) rfl (by first | exact .inl rfl | exact .inr (.inl rfl) | exact .inr (.inr rfl)))) (by rfl) (fun Xc1 c1 => (snd_tgN c1 hN ⟨rfl, by first | exact .inl rfl | exact .inr rfl, by first | exact .inl rfl | exact .inr rfl⟩)) (fun Xc1 c1 => snd_ifs0) (fun Xc1 c1 => (snd_cmp (cmpOp_ok c1.K c1.un _) rfl (snd_op c1 (i := 1) rfl (by first | exact .inl rfl | exact .inr (.inl rfl) | exact .inr (.inr rfl))) (snd_e (snd_gstr c1 z.k_LATER (by show _ = _; rfl))))))))))))
theorem hN_is_sign : N_is_sign.Nodup := by decide
theorem sc_is_sign : FnScope N_is_sign ["sign"] (defScope (top 13)) := ⟨rfl, rfl, rfl, by decide +kernel, rfl, by decide +kernel, by decide +kernel⟩
theorem b_is_sign {X : Cx} {W : WX} {g : G} (z : Env0 g) (hN : N_is_sign.Nodup) (c : Good X W g ⟨defScope (top 13), N_is_sign, fun _ => true⟩) (fr : Frm X) : PSs X (defBody (top 13)) (tS g W m_is_sign) :=
  (snd_one (snd_ret (PE.vl (snd_cmp (cmpOp_ok c.K c.un _) rfl (snd_op c (i := 0) rfl (by first | exact .inl rfl | exact .inr (.inl rfl) | exact .inr (.inr rfl))) (snd_e (snd_gstr c z.k_SIGNS (by show _ = _; rfl)))))))
theorem hN_is_text : N_is_text.Nodup := by decide
theorem sc_is_text : FnScope N_is_text ["thing"] (defScope (top 14)) := ⟨rfl, rfl, rfl, by decide +kernel, rfl, by decide +kernel, by decide +kernel⟩
theorem b_is_text {X : Cx} {W : WX} {g : G} (z : Env0 g) (hN : N_is_text.Nodup) (c : Good X W g ⟨defScope (top 14), N_is_text, fun _ => true⟩) (fr : Frm X) : PSs X (defBody (top 14)) (tS g W m_is_text) :=
  (snd_one (snd_ret (PE.vl (snd_andV c (PE.fz (snd_is1 c (by show _ = _; rfl) (z.hb _ (by decide)) (by show _ = _; rfl) (z.hb _ (by decide)) rfl (snd_op c (i := 0) rfl (by first | exact .inl rfl | exact .inr (.inl rfl) | exact .inr (.inr rfl))))) (snd_orV1 (PE.fz (snd_all c (by show _ = _; rfl) (z.hb _ (by decide)) (snd_e (PE.fz (snd_comp c hN (own := [("sign", 1)]) (snd_iter c (snd_var c (i := 0) rfl (by first | exact .inl rfl | exact .inr (.inl rfl) | exact .inr (.inr rfl)))) (by rfl) (fun Xc1 c1 => (snd_tgN c1 hN ⟨rfl, by first | exact .inl rfl | exact .inr rfl, by first | exact .inl rfl | exact .inr rfl⟩)) (fun Xc1 c1 => snd_ifs0) (fun Xc1 c1 => (snd_orV c1 (PE.fz (snd_callN c1 (z.t_is_sign) (by show _ = _; rfl) (snd_cons (snd_var c1 (i := 1) rfl (by first | exact .inl rfl | exact .inr (.inl rfl) | exact .inr (.inr rfl))) snd_nil) rfl)) (snd_orV1 (snd_cmp (cmpOp_ok c1.K c1.un _) rfl (snd_op c1 (i := 1) rfl (by first | exact .inl rfl | exact .inr (.inl rfl) | exact .inr (.inr rfl))) (snd_e (snd_str (toStr_mk _).symm))))))))))))))))
theorem hN_is_sum : N_is_sum.Nodup := by decide
theorem sc_is_sum : FnScope N_is_sum ["thing"] (defScope (top 15)) := ⟨rfl, rfl, rfl, by decide +kernel, rfl, by decide +kernel, by decide +kernel⟩
theorem b_is_sum {X : Cx} {W : WX} {g : G} (z : Env0 g) (hN : N_is_sum.Nodup) (c : Good X W g ⟨defScope (top 15), N_is_sum, fun _ => true⟩) (fr : Frm X) : PSs X (defBody (top 15)) (tS g W m_is_sum) :=
  (snd_seq (snd_if (snd_bt (snd_or (snd_not (snd_truth c (snd_e (PE.fz (snd_callN c (z.t_is_list) (by show _ = _; rfl) (snd_cons (snd_var c (i := 0) rfl (by first | exact .inl rfl | exact .inr (.inl rfl) | exact .inr (.inr rfl))) snd_nil) rfl))) (fun _ => rfl))) (snd_or (snd_cmpT (cmpOp_ok c.K c.un _) rfl (snd_e (PE.fz (snd_len c (by show _ = _; rfl) (z.hb _ (by decide)) (snd_op c (i := 0) rfl (by first | exact .inl rfl | exact .inr (.inl rfl) | exact .inr (.inr rfl)))))) (snd_e snd_int)) (snd_or1 (snd_not (snd_truth c (snd_e (PE.fz (snd_is1 c (by show _ = _; rfl) (z.hb _ (by decide)) (by show _ = _; rfl) (z.hb _ (by decide)) rfl (snd_e (PE.fz (snd_ix c (snd_op c (i := 0) rfl (by first | exact .inl rfl | exact .inr (.inl rfl) | exact .inr (.inr rfl))) (snd_e snd_int))))))) (fun _ => rfl))))))) (snd_one (snd_ret (PE.vl snd_bl))) snd_nils) (snd_seq (snd_if (snd_cmpT (cmpOp_ok c.K c.un _) rfl (snd_e (PE.fz (snd_ix c (snd_op c (i := 0) rfl (by first | exact .inl rfl | exact .inr (.inl rfl) | exact .inr (.inr rfl))) (snd_e snd_int)))) (snd_e (snd_str (toStr_mk _).symm))) (snd_one (snd_ret (PE.vl (snd_andV c (snd_cmp (cmpOp_ok c.K c.un _) rfl (snd_e (PE.fz (snd_len c (by show _ = _; rfl) (z.hb _ (by decide)) (snd_op c (i := 0) rfl (by first | exact .inl rfl | exact .inr (.inl rfl) | exact .inr (.inr rfl)))))) (snd_e snd_int)) (snd_andV c (PE.fz (snd_callN c (z.t_is_integer) (by show _ = _; rfl) (snd_cons (PE.fz (snd_ix c (snd_op c (i := 0) rfl (by first | exact .inl rfl | exact .inr (.inl rfl) | exact .inr (.inr rfl))) (snd_e snd_int))) snd_nil) rfl)) (snd_orV1 (snd_chain (cmpOp_ok c.K c.un _) (cmpOp_ok c.K c.un _) rfl (snd_e snd_int) (snd_e (PE.fz (snd_ix c (snd_op c (i := 0) rfl (by first | exact .inl rfl | exact .inr (.inl rfl) | exact .inr (.inr rfl))) (snd_e snd_int)))) (snd_e (PE.fz (snd_bin (binOp_ok c.K (h := h_bin .Pow) rfl) (snd_e snd_int) (snd_e snd_int))))))))))) snd_nils) (snd_seq (snd_if (snd_cmpT (cmpOp_ok c.K c.un _) rfl (snd_e (PE.fz (snd_ix c (snd_op c (i := 0) rfl (by first | exact .inl rfl | exact .inr (.inl rfl) | exact .inr (.inr rfl))) (snd_e snd_int)))) (snd_e (snd_str (toStr_mk _).symm))) (snd_one (snd_ret (PE.vl (snd_andV c (snd_cmp (cmpOp_ok c.K c.un _) rfl (snd_e (PE.fz (snd_len c (by show _ = _; rfl) (z.hb _ (by decide)) (snd_op c (i := 0) rfl (by first | exact .inl rfl | exact .inr (.inl rfl) | exact .inr (.inr rfl)))))) (snd_e snd_int)) (snd_orV1 (PE.fz (snd_callN c (z.t_is_name) (by show _ = _; rfl) (snd_cons (PE.fz (snd_ix c (snd_op c (i := 0) rfl (by first | exact .inl rfl | exact .inr (.inl rfl) | exact .inr (.inr rfl))) (snd_e snd_int))) snd_nil) rfl))))))) snd_nils) (snd_seq (snd_if (snd_cmpT (cmpOp_ok c.K c.un _) rfl (snd_e (PE.fz (snd_ix c (snd_op c (i := 0) rfl (by first | exact .inl rfl | exact .inr (.inl rfl) | exact .inr (.inr rfl))) (snd_e snd_int)))) (snd_e (snd_str (toStr_mk _).symm))) (snd_one (snd_ret (PE.vl (snd_andV c (snd_cmp (cmpOp_ok c.K c.un _) rfl (snd_e (PE.fz (snd_len c (by show _ = _; rfl) (z.hb _ (by decide)) (snd_op c (i := 0) rfl (by first | exact .inl rfl | exact .inr (.inl rfl) | exact .inr (.inr rfl)))))) (snd_e snd_int)) (snd_orV1 (PE.fz (snd_callN c (z.t_is_sum) (by show _ = _; rfl) (snd_cons (PE.fz (snd_ix c (snd_op c (i := 0) rfl (by first | exact .inl rfl | exact .inr (.inl rfl) | exact .inr (.inr rfl))) (snd_e snd_int))) snd_nil) rfl))))))) snd_nils) (snd_one (snd_ret (PE.vl (snd_andV c (snd_cmp (cmpOp_ok c.K c.un _) rfl (snd_e (PE.fz (snd_ix c (snd_op c (i := 0) rfl (by first | exact .inl rfl | exact .inr (.inl rfl) | exact .inr (.inr rfl))) (snd_e snd_int)))) (snd_e (snd_gtup c z.k_SIGNS_OF_TWO (by show _ = _; rfl)))) (snd_andV c (snd_cmp (cmpOp_ok c.K c.un _) rfl (snd_e (PE.fz (snd_len c (by show _ = _; rfl) (z.hb _ (by decide)) (snd_op c (i := 0) rfl (by first | exact .inl rfl | exact .inr (.inl rfl) | exact .inr (.inr rfl)))))) (snd_e snd_int)) (snd_andV c (PE.fz (snd_callN c (z.t_is_sum) (by show _ = _; rfl) (snd_cons (PE.fz (snd_ix c (snd_op c (i := 0) rfl (by first | exact .inl rfl | exact .inr (.inl rfl) | exact .inr (.inr rfl))) (snd_e snd_int))) snd_nil) rfl)) (snd_orV1 (PE.fz (snd_callN c (z.t_is_sum) (by show _ = _; rfl) (snd_cons (PE.fz (snd_ix c (snd_op c (i := 0) rfl (by first | exact .inl rfl | exact .inr (.inl rfl) | exact .inr (.inr rfl))) (snd_e snd_int))) snd_nil) rfl)))))))))))))
theorem hN_are_values : N_are_values.Nodup := by decide
theorem sc_are_values : FnScope N_are_values ["thing"] (defScope (top 17)) := ⟨rfl, rfl, rfl, by decide +kernel, rfl, by decide +kernel, by decide +kernel⟩
theorem b_are_values {X : Cx} {W : WX} {g : G} (z : Env0 g) (hN : N_are_values.Nodup) (c : Good X W g ⟨defScope (top 17), N_are_values, fun _ => true⟩) (fr : Frm X) : PSs X (defBody (top 17)) (tS g W m_are_values) :=
  (snd_one (snd_ret (PE.vl (snd_andV c (PE.fz (snd_is1 c (by show _ = _; rfl) (z.hb _ (by decide)) (by show _ = _; rfl) (z.hb _ (by decide)) rfl (snd_op c (i := 0) rfl (by first | exact .inl rfl | exact .inr (.inl rfl) | exact .inr (.inr rfl))))) (snd_orV1 (PE.fz (snd_all c (by show _ = _; rfl) (z.hb _ (by decide)) (snd_e (PE.fz (snd_compD c hN (own := [("name", 1), ("text", 2)]) (itk_items c (k := 0) rfl (by first | exact .inl rfl | exact .inr (.inl rfl) | exact .inr (.inr rfl))) (by rfl) (fun Xc1 c1 => (snd_tgT c1 hN (.cons ⟨rfl, by first | exact .inl rfl | exact .inr rfl, by first | exact .inl rfl | exact .inr rfl⟩ (.cons ⟨rfl, by first | exact .inl rfl | exact .inr rfl, by first | exact .inl rfl | exact .inr rfl⟩ .nil)) rfl)) (fun Xc1 c1 => snd_ifs0) (fun Xc1 c1 => (snd_andV c1 (PE.fz (snd_callN c1 (z.t_is_name) (by show _ = _; rfl) (snd_cons (snd_var c1 (i := 1) rfl (by first | exact .inl rfl | exact .inr (.inl rfl) | exact .inr (.inr rfl))) snd_nil) rfl)) (snd_orV1 (PE.fz (snd_callN c1 (z.t_is_text) (by show _ = _; rfl) (snd_cons (snd_var c1 (i := 2) rfl (by first | exact .inl rfl | exact .inr (.inl rfl) | exact .inr (.inr rfl))) snd_nil) rfl)))))))))))))))
theorem hN_number_in : N_number_in.Nodup := by decide
theorem sc_number_in : FnScope N_number_in ["text"] (defScope (top 18)) := ⟨rfl, rfl, rfl, by decide +kernel, rfl, by decide +kernel, by decide +kernel⟩
theorem b_number_in {X : Cx} {W : WX} {g : G} (z : Env0 g) (hN : N_number_in.Nodup) (c : Good X W g ⟨defScope (top 18), N_number_in, fun _ => true⟩) (fr : Frm X) : PSs X (defBody (top 18)) (tS g W m_number_in) :=
  (snd_seq (snd_set c hN ⟨rfl, by first | exact .inl rfl | exact .inr rfl, .inl rfl⟩ (snd_ifx (snd_cmpT (cmpOp_ok c.K c.un _) rfl (snd_e (PE.fz (snd_cut c (snd_op c (i := 0) rfl (by first | exact .inl rfl | exact .inr (.inl rfl) | exact .inr (.inr rfl))) snd_nopart (snd_part snd_int)))) (snd_e (snd_str (toStr_mk _).symm))) (snd_cut c (snd_op c (i := 0) rfl (by first | exact .inl rfl | exact .inr (.inl rfl) | exact .inr (.inr rfl))) (snd_part snd_int) snd_nopart) (PE.vl (snd_var c (i := 0) rfl (by first | exact .inl rfl | exact .inr (.inl rfl) | exact .inr (.inr rfl)))))) (snd_seq (snd_if (snd_cmpT (cmpOp_ok c.K c.un _) rfl (snd_op c (i := 0) rfl (by first | exact .inl rfl | exact .inr (.inl rfl) | exact .inr (.inr rfl))) (snd_e (snd_str (toStr_mk _).symm))) (snd_one (snd_ret (PE.vl snd_int))) snd_nils) (snd_one (snd_ret (snd_ifx (snd_bt (snd_and (snd_cmpT (cmpOp_ok c.K c.un _) rfl (snd_op c (i := 1) rfl (by first | exact .inl rfl | exact .inr (.inl rfl) | exact .inr (.inr rfl))) (snd_e (snd_str (toStr_mk _).symm))) (snd_and1 (snd_truth c (snd_e (PE.fz (snd_all c (by show _ = _; rfl) (z.hb _ (by decide)) (snd_e (PE.fz (snd_comp c hN (own := [("sign", 2)]) (snd_iter c (snd_var c (i := 1) rfl (by first | exact .inl rfl | exact .inr (.inl rfl) | exact .inr (.inr rfl)))) (by rfl) (fun Xc1 c1 => (snd_tgN c1 hN ⟨rfl, by first | exact .inl rfl | exact .inr rfl, by first | exact .inl rfl | exact .inr rfl⟩)) (fun Xc1 c1 => snd_ifs0) (fun Xc1 c1 => (snd_cmp (cmpOp_ok c1.K c1.un _) rfl (snd_op c1 (i := 2) rfl (by first | exact .inl rfl | exact .inr (.inl rfl) | exact .inr (.inr rfl))) (snd_e (snd_str (toStr_mk _).symm)))))))))) (fun _ => rfl))))) (snd_toint c (by show _ = _; rfl) (z.hb _ (by decide)) (snd_op c (i := 0) rfl (by first | exact .inl rfl | exact .inr (.inl rfl) | exact .inr (.inr rfl)))) (PE.vl snd_non))))))
theorem hN_quotient : N_quotient.Nodup := by decide
theorem sc_quotient : FnScope N_quotient ["one", "other"] (defScope (top 19)) := ⟨rfl, rfl, rfl, by decide +kernel, rfl, by decide +kernel, by decide +kernel⟩
theorem b_quotient {X : Cx} {W : WX} {g : G} (z : Env0 g) (hN : N_quotient.Nodup) (c : Good X W g ⟨defScope (top 19), N_quotient, fun _ => true⟩) (fr : Frm X) : PSs X (defBody (top 19)) (tS g W m_quotient) :=
  (snd_seq (snd_set c hN ⟨rfl, by first | exact .inl rfl | exact .inr rfl, .inl rfl⟩ (snd_bin (binOp_ok c.K (h := h_bin .FloorDiv) rfl) (snd_e (PE.fz (snd_abs c (by show _ = _; rfl) (z.hb _ (by decide)) (snd_op c (i := 0) rfl (by first | exact .inl rfl | exact .inr (.inl rfl) | exact .inr (.inr rfl)))))) (snd_e (PE.fz (snd_abs c (by show _ = _; rfl) (z.hb _ (by decide)) (snd_op c (i := 1) rfl (by first | exact .inl rfl | exact .inr (.inl rfl) | exact .inr (.inr rfl)))))))) (snd_one (snd_ret (snd_ifx (snd_cmpT (cmpOp_ok c.K c.un _) rfl (snd_e (snd_cmp (cmpOp_ok c.K c.un _) rfl (snd_op c (i := 0) rfl (by first | exact .inl rfl | exact .inr (.inl rfl) | exact .inr (.inr rfl))) (snd_e snd_int))) (snd_e (snd_cmp (cmpOp_ok c.K c.un _) rfl (snd_op c (i := 1) rfl (by first | exact .inl rfl | exact .inr (.inl rfl) | exact .inr (.inr rfl))) (snd_e snd_int)))) (PE.vl (snd_var c (i := 2) rfl (by first | exact .inl rfl | exact .inr (.inl rfl) | exact .inr (.inr rfl)))) (snd_neg (snd_op c (i := 2) rfl (by first | exact .inl rfl | exact .inr (.inl rfl) | exact .inr (.inr rfl))))))))
theorem hN_joined : N_joined.Nodup := by decide
theorem sc_joined : FnScope N_joined ["sign", "one", "other"] (defScope (top 20)) := ⟨rfl, rfl, rfl, by decide +kernel, rfl, by decide +kernel, by decide +kernel⟩
theorem b_joined {X : Cx} {W : WX} {g : G} (z : Env0 g) (hN : N_joined.Nodup) (c : Good X W g ⟨defScope (top 20), N_joined, fun _ => true⟩) (fr : Frm X) : PSs X (defBody (top 20)) (tS g W m_joined) :=
  (snd_seq (snd_if (snd_cmpT (cmpOp_ok c.K c.un _) rfl (snd_op c (i := 0) rfl (by first | exact .inl rfl | exact .inr (.inl rfl) | exact .inr (.inr rfl))) (snd_e (PE.fz (snd_tup (snd_cons (snd_str (toStr_mk _).symm) (snd_cons (snd_str (toStr_mk _).symm) snd_nil)))))) (snd_seq (snd_if (snd_cmpT (cmpOp_ok c.K c.un _) rfl (snd_op c (i := 2) rfl (by first | exact .inl rfl | exact .inr (.inl rfl) | exact .inr (.inr rfl))) (snd_e snd_int)) (snd_one (snd_ret (PE.vl snd_non))) snd_nils) (snd_one (snd_ret (snd_ifx (snd_cmpT (cmpOp_ok c.K c.un _) rfl (snd_op c (i := 0) rfl (by first | exact .inl rfl | exact .inr (.inl rfl) | exact .inr (.inr rfl))) (snd_e (snd_str (toStr_mk _).symm))) (snd_callN c (z.t_quotient) (by show _ = _; rfl) (snd_cons (snd_var c (i := 1) rfl (by first | exact .inl rfl | exact .inr (.inl rfl) | exact .inr (.inr rfl))) (snd_cons (snd_var c (i := 2) rfl (by first | exact .inl rfl | exact .inr (.inl rfl) | exact .inr (.inr rfl))) snd_nil)) rfl) (snd_bin (binOp_ok c.K (h := h_bin .Sub) rfl) (snd_op c (i := 1) rfl (by first | exact .inl rfl | exact .inr (.inl rfl) | exact .inr (.inr rfl))) (snd_e (PE.fz (snd_bin (binOp_ok c.K (h := h_bin .Mult) rfl) (snd_op c (i := 2) rfl (by first | exact .inl rfl | exact .inr (.inl rfl) | exact .inr (.inr rfl))) (snd_e (PE.fz (snd_callN c (z.t_quotient) (by show _ = _; rfl) (snd_cons (snd_var c (i := 1) rfl (by first | exact .inl rfl | exact .inr (.inl rfl) | exact .inr (.inr rfl))) (snd_cons (snd_var c (i := 2) rfl (by first | exact .inl rfl | exact .inr (.inl rfl) | exact .inr (.inr rfl))) snd_nil)) rfl))))))))))) snd_nils) (snd_seq (snd_if (snd_cmpT (cmpOp_ok c.K c.un _) rfl (snd_op c (i := 0) rfl (by first | exact .inl rfl | exact .inr (.inl rfl) | exact .inr (.inr rfl))) (snd_e (PE.fz (snd_tup (snd_cons (snd_str (toStr_mk _).symm) (snd_cons (snd_str (toStr_mk _).symm) snd_nil)))))) (snd_one (snd_ret (snd_ifx (snd_cmpT (cmpOp_ok c.K c.un _) rfl (snd_op c (i := 0) rfl (by first | exact .inl rfl | exact .inr (.inl rfl) | exact .inr (.inr rfl))) (snd_e (snd_str (toStr_mk _).symm))) (snd_bin (binOp_ok c.K (h := h_bin .Add) rfl) (snd_op c (i := 1) rfl (by first | exact .inl rfl | exact .inr (.inl rfl) | exact .inr (.inr rfl))) (snd_op c (i := 2) rfl (by first | exact .inl rfl | exact .inr (.inl rfl) | exact .inr (.inr rfl)))) (snd_bin (binOp_ok c.K (h := h_bin .Sub) rfl) (snd_op c (i := 1) rfl (by first | exact .inl rfl | exact .inr (.inl rfl) | exact .inr (.inr rfl))) (snd_op c (i := 2) rfl (by first | exact .inl rfl | exact .inr (.inl rfl) | exact .inr (.inr rfl))))))) snd_nils) (snd_seq (snd_if (snd_cmpT (cmpOp_ok c.K c.un _) rfl (snd_op c (i := 0) rfl (by first | exact .inl rfl | exact .inr (.inl rfl) | exact .inr (.inr rfl))) (snd_e (snd_str (toStr_mk _).symm))) (snd_one (snd_ret (snd_bin (binOp_ok c.K (h := h_bin .Mult) rfl) (snd_op c (i := 1) rfl (by first | exact .inl rfl | exact .inr (.inl rfl) | exact .inr (.inr rfl))) (snd_op c (i := 2) rfl (by first | exact .inl rfl | exact .inr (.inl rfl) | exact .inr (.inr rfl)))))) snd_nils) (snd_one (snd_ret (snd_toint c (by show _ = _; rfl) (z.hb _ (by decide)) (snd_e (snd_ifx (snd_cmpT (cmpOp_ok c.K c.un _) rfl (snd_op c (i := 0) rfl (by first | exact .inl rfl | exact .inr (.inl rfl) | exact .inr (.inr rfl))) (snd_e (snd_str (toStr_mk _).symm))) (snd_cmp (cmpOp_ok c.K c.un _) rfl (snd_op c (i := 1) rfl (by first | exact .inl rfl | exact .inr (.inl rfl) | exact .inr (.inr rfl))) (snd_op c (i := 2) rfl (by first | exact .inl rfl | exact .inr (.inl rfl) | exact .inr (.inr rfl)))) (snd_ifx (snd_cmpT (cmpOp_ok c.K c.un _) rfl (snd_op c (i := 0) rfl (by first | exact .inl rfl | exact .inr (.inl rfl) | exact .inr (.inr rfl))) (snd_e (snd_str (toStr_mk _).symm))) (snd_cmp (cmpOp_ok c.K c.un _) rfl (snd_op c (i := 1) rfl (by first | exact .inl rfl | exact .inr (.inl rfl) | exact .inr (.inr rfl))) (snd_op c (i := 2) rfl (by first | exact .inl rfl | exact .inr (.inl rfl) | exact .inr (.inr rfl)))) (snd_cmp (cmpOp_ok c.K c.un _) rfl (snd_op c (i := 1) rfl (by first | exact .inl rfl | exact .inr (.inl rfl) | exact .inr (.inr rfl))) (snd_op c (i := 2) rfl (by first | exact .inl rfl | exact .inr (.inl rfl) | exact .inr (.inr rfl)))))))))))))
theorem hN_value_of_sum : N_value_of_sum.Nodup := by decide
theorem sc_value_of_sum : FnScope N_value_of_sum ["total", "held"] (defScope (top 21)) := ⟨rfl, rfl, rfl, by decide +kernel, rfl, by decide +kernel, by decide +kernel⟩
theorem b_value_of_sum {X : Cx} {W : WX} {g : G} (z : Env0 g) (hN : N_value_of_sum.Nodup) (c : Good X W g ⟨defScope (top 21), N_value_of_sum, fun _ => true⟩) (fr : Frm X) : PSs X (defBody (top 21)) (tS g W m_value_of_sum) :=
  (snd_seq (snd_if (snd_cmpT (cmpOp_ok c.K c.un _) rfl (snd_e (PE.fz (snd_ix c (snd_op c (i := 0) rfl (by first | exact .inl rfl | exact .inr (.inl rfl) | exact .inr (.inr rfl))) (snd_e snd_int)))) (snd_e (snd_str (toStr_mk _).symm))) (snd_one (snd_ret (snd_tup (snd_cons (snd_str (toStr_mk _).symm) (snd_cons (PE.fz (snd_ix c (snd_op c (i := 0) rfl (by first | exact .inl rfl | exact .inr (.inl rfl) | exact .inr (.inr rfl))) (snd_e snd_int))) snd_nil))))) snd_nils) (snd_seq (snd_if (snd_cmpT (cmpOp_ok c.K c.un _) rfl (snd_e (PE.fz (snd_ix c (snd_op c (i := 0) rfl (by first | exact .inl rfl | exact .inr (.inl rfl) | exact .inr (.inr rfl))) (snd_e snd_int)))) (snd_e (snd_str (toStr_mk _).symm))) (snd_seq (snd_set c hN ⟨rfl, by first | exact .inl rfl | exact .inr rfl, .inl rfl⟩ (snd_callN c (z.t_number_in) (by show _ = _; rfl) (snd_cons (snd_get2 c (snd_op c (i := 1) rfl (by first | exact .inl rfl | exact .inr (.inl rfl) | exact .inr (.inr rfl))) (snd_e (PE.fz (snd_ix c (snd_op c (i := 0) rfl (by first | exact .inl rfl | exact .inr (.inl rfl) | exact .inr (.inr rfl))) (snd_e snd_int)))) (snd_str (toStr_mk _).symm)) snd_nil) rfl)) (snd_one (snd_ret (snd_ifx (snd_cmpT (cmpOp_ok c.K c.un _) rfl (snd_op c (i := 4) rfl (by first | exact .inl rfl | exact .inr (.inl rfl) | exact .inr (.inr rfl))) (snd_e snd_non)) (snd_tup (snd_cons (snd_str (toStr_mk _).symm) (snd_cons (PE.fz (snd_tup (snd_cons (snd_str (toStr_mk _).symm) (snd_cons (PE.fz (snd_ix c (snd_op c (i := 0) rfl (by first | exact .inl rfl | exact .inr (.inl rfl) | exact .inr (.inr rfl))) (snd_e snd_int))) snd_nil)))) snd_nil))) (snd_tup (snd_cons (snd_str (toStr_mk _).symm) (snd_cons (snd_var c (i := 4) rfl (by first | exact .inl rfl | exact .inr (.inl rfl) | exact .inr (.inr rfl))) snd_nil))))))) snd_nils) (snd_seq (snd_set c hN ⟨rfl, by first | exact .inl rfl | exact .inr rfl, .inl rfl⟩ (snd_lst snd_nil)) (snd_seq (snd_for c (snd_iter c (PE.fz (snd_cut c (snd_op c (i := 0) rfl (by first | exact .inl rfl | exact .inr (.inl rfl) | exact .inr (.inr rfl))) (snd_part snd_int) snd_nopart))) (snd_tgN c hN ⟨rfl, by first | exact .inl rfl | exact .inr rfl, by first | exact .inl rfl | exact .inr rfl⟩) (snd_seq (snd_expr (snd_append c (k := 2) rfl (by first | exact .inl rfl | exact .inr (.inl rfl) | exact .inr (.inr rfl)) (PE.fz (snd_callN c (z.t_value_of_sum) (by show _ = _; rfl) (snd_cons (snd_var c (i := 3) rfl (by first | exact .inl rfl | exact .inr (.inl rfl) | exact .inr (.inr rfl))) (snd_cons (snd_var c (i := 1) rfl (by first | exact .inl rfl | exact .inr (.inl rfl) | exact .inr (.inr rfl))) snd_nil)) rfl)))) (snd_one (snd_if (snd_cmpT (cmpOp_ok c.K c.un _) rfl (snd_e (PE.fz (snd_ix c (snd_e (PE.fz (snd_ix c (snd_op c (i := 2) rfl (by first | exact .inl rfl | exact .inr (.inl rfl) | exact .inr (.inr rfl))) (snd_e (PE.fz (snd_neg (snd_e snd_int))))))) (snd_e snd_int)))) (snd_e (snd_str (toStr_mk _).symm))) (snd_one (snd_ret (snd_ix c (snd_op c (i := 2) rfl (by first | exact .inl rfl | exact .inr (.inl rfl) | exact .inr (.inr rfl))) (snd_e (PE.fz (snd_neg (snd_e snd_int))))))) snd_nils)))) (snd_seq (snd_if (snd_cmpT (cmpOp_ok c.K c.un _) rfl (snd_e (PE.fz (snd_ix c (snd_op c (i := 0) rfl (by first | exact .inl rfl | exact .inr (.inl rfl) | exact .inr (.inr rfl))) (snd_e snd_int)))) (snd_e (snd_str (toStr_mk _).symm))) (snd_one (snd_ret (snd_tup (snd_cons (snd_str (toStr_mk _).symm) (snd_cons (PE.fz (snd_neg (snd_e (PE.fz (snd_ix c (snd_e (PE.fz (snd_ix c (snd_op c (i := 2) rfl (by first | exact .inl rfl | exact .inr (.inl rfl) | exact .inr (.inr rfl))) (snd_e snd_int)))) (snd_e snd_int)))))) snd_nil))))) snd_nils) (snd_seq (snd_set c hN ⟨rfl, by first | exact .inl rfl | exact .inr rfl, .inl rfl⟩ (snd_callN c (z.t_joined) (by show _ = _; rfl) (snd_cons (PE.fz (snd_ix c (snd_op c (i := 0) rfl (by first | exact .inl rfl | exact .inr (.inl rfl) | exact .inr (.inr rfl))) (snd_e snd_int))) (snd_cons (PE.fz (snd_ix c (snd_e (PE.fz (snd_ix c (snd_op c (i := 2) rfl (by first | exact .inl rfl | exact .inr (.inl rfl) | exact .inr (.inr rfl))) (snd_e snd_int)))) (snd_e snd_int))) (snd_cons (PE.fz (snd_ix c (snd_e (PE.fz (snd_ix c (snd_op c (i := 2) rfl (by first | exact .inl rfl | exact .inr (.inl rfl) | exact .inr (.inr rfl))) (snd_e snd_int)))) (snd_e snd_int))) snd_nil))) rfl)) (snd_one (snd_ret (snd_ifx (snd_cmpT (cmpOp_ok c.K c.un _) rfl (snd_op c (i := 4) rfl (by first | exact .inl rfl | exact .inr (.inl rfl) | exact .inr (.inr rfl))) (snd_e snd_non)) (snd_tup (snd_cons (snd_str (toStr_mk _).symm) (snd_cons (PE.fz (snd_tup (snd_cons (snd_str (toStr_mk _).symm) snd_nil))) snd_nil))) (snd_tup (snd_cons (snd_str (toStr_mk _).symm) (snd_cons (snd_var c (i := 4) rfl (by first | exact .inl rfl | exact .inr (.inl rfl) | exact .inr (.inr rfl))) snd_nil))))))))))))
theorem hN_sum_value : N_sum_value.Nodup := by decide
theorem sc_sum_value : FnScope N_sum_value ["total", "held"] (defScope (top 22)) := ⟨rfl, rfl, rfl, by decide +kernel, rfl, by decide +kernel, by decide +kernel⟩
theorem b_sum_value {X : Cx} {W : WX} {g : G} (z : Env0 g) (hN : N_sum_value.Nodup) (c : Good X W g ⟨defScope (top 22), N_sum_value, fun _ => true⟩) (fr : Frm X) : PSs X (defBody (top 22)) (tS g W m_sum_value) :=
  (snd_seq (snd_if (snd_not (snd_truth c (snd_e (PE.fz (snd_callN c (z.t_is_sum) (by show _ = _; rfl) (snd_cons (snd_var c (i := 0) rfl (by first | exact .inl rfl | exact .inr (.inl rfl) | exact .inr (.inr rfl))) snd_nil) rfl))) (fun _ => rfl))) (snd_one (snd_raise c z.x_0 (by show _ = _; rfl) (snd_cons (snd_var c (i := 0) rfl (by first | exact .inl rfl | exact .inr (.inl rfl) | exact .inr (.inr rfl))) snd_nil) rfl (by decide))) snd_nils) (snd_seq (snd_if (snd_not (snd_truth c (snd_e (PE.fz (snd_callN c (z.t_are_values) (by show _ = _; rfl) (snd_cons (snd_var c (i := 1) rfl (by first | exact .inl rfl | exact .inr (.inl rfl) | exact .inr (.inr rfl))) snd_nil) rfl))) (fun _ => rfl))) (snd_one (snd_raise c z.x_1 (by show _ = _; rfl) (snd_cons (snd_var c (i := 1) rfl (by first | exact .inl rfl | exact .inr (.inl rfl) | exact .inr (.inr rfl))) snd_nil) rfl (by decide))) snd_nils) (snd_one (snd_ret (snd_callN c (z.t_value_of_sum) (by show _ = _; rfl) (snd_cons (snd_var c (i := 0) rfl (by first | exact .inl rfl | exact .inr (.inl rfl) | exact .inr (.inr rfl))) (snd_cons (snd_var c (i := 1) rfl (by first | exact .inl rfl | exact .inr (.inl rfl) | exact .inr (.inr rfl))) snd_nil)) rfl)))))
theorem hN__law_stream : N__law_stream.Nodup := by decide
theorem sc__law_stream : FnScope N__law_stream ["_law_script", "_law_k"] (defScope (top 24)) := ⟨rfl, rfl, rfl, by decide +kernel, rfl, by decide +kernel, by decide +kernel⟩
theorem b__law_stream {X : Cx} {W : WX} {g : G} (z : Env0 g) (hN : N__law_stream.Nodup) (c : Good X W g ⟨defScope (top 24), N__law_stream, fun _ => true⟩) (fr : Frm X) : PSs X (defBody (top 24)) (tS g W m__law_stream) :=
  (snd_seq (snd_set c hN ⟨rfl, by first | exact .inl rfl | exact .inr rfl, .inl rfl⟩ (snd_ifx (snd_cmpT (cmpOp_ok c.K c.un _) rfl (snd_op c (i := 1) rfl (by first | exact .inl rfl | exact .inr (.inl rfl) | exact .inr (.inr rfl))) (snd_e (PE.fz (snd_len c (by show _ = _; rfl) (z.hb _ (by decide)) (snd_op c (i := 0) rfl (by first | exact .inl rfl | exact .inr (.inl rfl) | exact .inr (.inr rfl))))))) (snd_abs c (by show _ = _; rfl) (z.hb _ (by decide)) (snd_e (PE.fz (snd_ix c (snd_op c (i := 0) rfl (by first | exact .inl rfl | exact .inr (.inl rfl) | exact .inr (.inr rfl))) (snd_op c (i := 1) rfl (by first | exact .inl rfl | exact .inr (.inl rfl) | exact .inr (.inr rfl))))))) (snd_bin (binOp_ok c.K (h := h_bin .Add) rfl) (snd_e (PE.fz (snd_bin (binOp_ok c.K (h := h_bin .Mod) rfl) (snd_e (PE.fz (snd_toint c (by show _ = _; rfl) (z.hb _ (by decide)) (snd_e (PE.fz (snd_sum c (by show _ = _; rfl) (z.hb _ (by decide)) (snd_e (PE.fz (snd_cut c (snd_op c (i := 0) rfl (by first | exact .inl rfl | exact .inr (.inl rfl) | exact .inr (.inr rfl))) snd_nopart (snd_part snd_int)))))))))) (snd_e snd_int)))) (snd_e (PE.fz (snd_bin (binOp_ok c.K (h := h_bin .Mult) rfl) (snd_e snd_int) (snd_op c (i := 1) rfl (by first | exact .inl rfl | exact .inr (.inl rfl) | exact .inr (.inr rfl))))))))) (snd_seq (snd_set c hN ⟨rfl, by first | exact .inl rfl | exact .inr rfl, .inl rfl⟩ (snd_bin (binOp_ok c.K (h := h_bin .Mod) rfl) (snd_e (PE.fz (snd_sum c (by show _ = _; rfl) (z.hb _ (by decide)) (snd_e (PE.fz (snd_comp c hN (own := [("_law_at", 4), ("_law_one", 5)]) (snd_enum c (by show _ = _; rfl) (z.hb _ (by decide)) (snd_var c (i := 0) rfl (by first | exact .inl rfl | exact .inr (.inl rfl) | exact .inr (.inr rfl)))) (by rfl) (fun Xc1 c1 => (snd_tgT c1 hN (.cons ⟨rfl, by first | exact .inl rfl | exact .inr rfl, by first | exact .inl rfl | exact .inr rfl⟩ (.cons ⟨rfl, by first | exact .inl rfl | exact .inr rfl, by first | exact .inl rfl | exact .inr rfl⟩ .nil)) rfl)) (fun Xc1 c1 => snd_ifs0) (fun Xc1 c1 => (PE.fz (snd_bin (binOp_ok c1.K (h := h_bin .Mult) rfl) (snd_e (PE.fz (snd_bin (binOp_ok c1.K (h := h_bin .Add) rfl) (snd_op c1 (i := 4) rfl (by first | exact .inl rfl | exact .inr (.inl rfl) | exact .inr (.inr rfl))) (snd_e snd_int)))) (snd_e (PE.fz (snd_toint c1 (by show _ = _; rfl) (z.hb _ (by decide)) (snd_e (PE.fz (snd_abs c1 (by show _ = _; rfl) (z.hb _ (by decide)) (snd_op c1 (i := 5) rfl (by first | exact .inl rfl | exact .inr (.inl rfl) | exact .inr (.inr rfl)))))))))))))))))) (snd_e snd_int))) (snd_one (snd_ret (snd_lstS (snd_cons (snd_ifx (snd_cmpT (cmpOp_ok c.K c.un _) rfl (snd_op c (i := 2) rfl (by first | exact .inl rfl | exact .inr (.inl rfl) | exact .inr (.inr rfl))) (snd_e (PE.fz (snd_bin (binOp_ok c.K (h := h_bin .Pow) rfl) (snd_e snd_int) (snd_e snd_int))))) (snd_var c (i := 2) rfl (by first | exact .inl rfl | exact .inr (.inl rfl) | exact .inr (.inr rfl))) snd_int) (snd_cons (PE.fz (snd_bin (binOp_ok c.K (h := h_bin .Add) rfl) (snd_e (PE.fz (snd_bin (binOp_ok c.K (h := h_bin .Mod) rfl) (snd_e (PE.fz (snd_toint c (by show _ = _; rfl) (z.hb _ (by decide)) (snd_e (PE.fz (snd_bin (binOp_ok c.K (h := h_bin .Add) rfl) (snd_op c (i := 2) rfl (by first | exact .inl rfl | exact .inr (.inl rfl) | exact .inr (.inr rfl))) (snd_op c (i := 3) rfl (by first | exact .inl rfl | exact .inr (.inl rfl) | exact .inr (.inr rfl))))))))) (snd_e snd_int)))) (snd_e (PE.fz (snd_bin (binOp_ok c.K (h := h_bin .Mult) rfl) (snd_e snd_int) (snd_op c (i := 1) rfl (by first | exact .inl rfl | exact .inr (.inl rfl) | exact .inr (.inr rfl)))))))) (snd_cons snd_int snd_nil))))))))
theorem hN__law_draw : N__law_draw.Nodup := by decide
theorem sc__law_draw : FnScope N__law_draw ["_law_stream_here", "_law_many"] (defScope (top 25)) := ⟨rfl, rfl, rfl, by decide +kernel, rfl, by decide +kernel, by decide +kernel⟩
theorem b__law_draw {X : Cx} {W : WX} {g : G} (z : Env0 g) (hN : N__law_draw.Nodup) (c : Good X W g ⟨defScope (top 25), N__law_draw, fun _ => true⟩) (fr : Frm X) : PSs X (defBody (top 25)) (tS g W m__law_draw) :=
  (snd_seq (snd_if (snd_cmpT (cmpOp_ok c.K c.un _) rfl (snd_e (PE.fz (snd_ix c (snd_op c (i := 0) rfl (by first | exact .inl rfl | exact .inr (.inl rfl) | exact .inr (.inr rfl))) (snd_e snd_int)))) (snd_e snd_int)) (snd_seq (snd_set c hN ⟨rfl, by first | exact .inl rfl | exact .inr rfl, .inl rfl⟩ (snd_bin (binOp_ok c.K (h := h_bin .Mod) rfl) (snd_e (PE.fz (snd_toint c (by show _ = _; rfl) (z.hb _ (by decide)) (snd_e (PE.fz (snd_ix c (snd_op c (i := 0) rfl (by first | exact .inl rfl | exact .inr (.inl rfl) | exact .inr (.inr rfl))) (snd_e snd_int))))))) (snd_op c (i := 1) rfl (by first | exact .inl rfl | exact .inr (.inl rfl) | exact .inr (.inr rfl))))) (snd_seq (snd_put c (k := 0) rfl (by first | exact .inl rfl | exact .inr (.inl rfl) | exact .inr (.inr rfl)) (snd_e snd_int) (PE.fz (snd_bin (binOp_ok c.K (h := h_bin .FloorDiv) rfl) (snd_e (PE.fz (snd_ix c (snd_op c (i := 0) rfl (by first | exact .inl rfl | exact .inr (.inl rfl) | exact .inr (.inr rfl))) (snd_e snd_int)))) (snd_op c (i := 1) rfl (by first | exact .inl rfl | exact .inr (.inl rfl) | exact .inr (.inr rfl)))))) (snd_one (snd_retV c (i := 3) rfl (by first | exact .inl rfl | exact .inr (.inl rfl) | exact .inr (.inr rfl)))))) snd_nils) (snd_seq (snd_put c (k := 0) rfl (by first | exact .inl rfl | exact .inr (.inl rfl) | exact .inr (.inr rfl)) (snd_e snd_int) (PE.fz (snd_bin (binOp_ok c.K (h := h_bin .Add) rfl) (snd_e (PE.fz (snd_ix c (snd_op c (i := 0) rfl (by first | exact .inl rfl | exact .inr (.inl rfl) | exact .inr (.inr rfl))) (snd_e snd_int)))) (snd_e snd_int)))) (snd_seq (snd_set c hN ⟨rfl, by first | exact .inl rfl | exact .inr rfl, .inl rfl⟩ (snd_bin (binOp_ok c.K (h := h_bin .Mod) rfl) (snd_e (PE.fz (snd_bin (binOp_ok c.K (h := h_bin .Pow) rfl) (snd_e (PE.fz (snd_toint c (by show _ = _; rfl) (z.hb _ (by decide)) (snd_e (PE.fz (snd_bin (binOp_ok c.K (h := h_bin .Add) rfl) (snd_e (PE.fz (snd_bin (binOp_ok c.K (h := h_bin .Add) rfl) (snd_e (PE.fz (snd_ix c (snd_op c (i := 0) rfl (by first | exact .inl rfl | exact .inr (.inl rfl) | exact .inr (.inr rfl))) (snd_e snd_int)))) (snd_e (PE.fz (snd_bin (binOp_ok c.K (h := h_bin .Mult) rfl) (snd_e snd_int) (snd_e (PE.fz (snd_ix c (snd_op c (i := 0) rfl (by first | exact .inl rfl | exact .inr (.inl rfl) | exact .inr (.inr rfl))) (snd_e snd_int)))))))))) (snd_e snd_int))))))) (snd_e snd_int)))) (snd_e snd_int))) (snd_one (snd_ret (snd_bin (binOp_ok c.K (h := h_bin .Mod) rfl) (snd_e (PE.fz (snd_bin (binOp_ok c.K (h := h_bin .FloorDiv) rfl) (snd_e (PE.fz (snd_bin (binOp_ok c.K (h := h_bin .Mod) rfl) (snd_e (PE.fz (snd_toint c (by show _ = _; rfl) (z.hb _ (by decide)) (snd_e (PE.fz (snd_bin (binOp_ok c.K (h := h_bin .Mult) rfl) (snd_e (PE.fz (snd_bin (binOp_ok c.K (h := h_bin .Add) rfl) (snd_op c (i := 2) rfl (by first | exact .inl rfl | exact .inr (.inl rfl) | exact .inr (.inr rfl))) (snd_e (PE.fz (snd_ix c (snd_op c (i := 0) rfl (by first | exact .inl rfl | exact .inr (.inl rfl) | exact .inr (.inr rfl))) (snd_e snd_int))))))) (snd_e snd_int))))))) (snd_e snd_int)))) (snd_e snd_int)))) (snd_op c (i := 1) rfl (by first | exact .inl rfl | exact .inr (.inl rfl) | exact .inr (.inr rfl)))))))))
theorem hN__law_pick : N__law_pick.Nodup := by decide
theorem sc__law_pick : FnScope N__law_pick ["_law_stream_here", "_law_some"] (defScope (top 26)) := ⟨rfl, rfl, rfl, by decide +kernel, rfl, by decide +kernel, by decide +kernel⟩
theorem b__law_pick {X : Cx} {W : WX} {g : G} (z : Env0 g) (hN : N__law_pick.Nodup) (c : Good X W g ⟨defScope (top 26), N__law_pick, fun _ => true⟩) (fr : Frm X) : PSs X (defBody (top 26)) (tS g W m__law_pick) :=
  (snd_one (snd_ret (snd_ix c (snd_op c (i := 1) rfl (by first | exact .inl rfl | exact .inr (.inl rfl) | exact .inr (.inr rfl))) (snd_e (PE.fz (snd_callN c (z.t__law_draw) (by show _ = _; rfl) (snd_cons (snd_var c (i := 0) rfl (by first | exact .inl rfl | exact .inr (.inl rfl) | exact .inr (.inr rfl))) (snd_cons (PE.fz (snd_len c (by show _ = _; rfl) (z.hb _ (by decide)) (snd_op c (i := 1) rfl (by first | exact .inl rfl | exact .inr (.inl rfl) | exact .inr (.inr rfl))))) snd_nil)) rfl))))))
theorem hN__law_mixed : N__law_mixed.Nodup := by decide
theorem sc__law_mixed : FnScope N__law_mixed ["_law_stream_here", "_law_some"] (defScope (top 27)) := ⟨rfl, rfl, rfl, by decide +kernel, rfl, by decide +kernel, by decide +kernel⟩
theorem b__law_mixed {X : Cx} {W : WX} {g : G} (z : Env0 g) (hN : N__law_mixed.Nodup) (c : Good X W g ⟨defScope (top 27), N__law_mixed, fun _ => true⟩) (fr : Frm X) : PSs X (defBody (top 27)) (tS g W m__law_mixed) :=
  (snd_seq (snd_par c hN (i := 2) (j := 3) rfl rfl (by decide) rfl rfl rfl (snd_list c (by show _ = _; rfl) (z.hb _ (by decide)) (snd_op c (i := 1) rfl (by first | exact .inl rfl | exact .inr (.inl rfl) | exact .inr (.inr rfl)))) (snd_lst snd_nil) rfl rfl rfl rfl rfl rfl) (snd_seq (snd_while c (snd_cmpT (cmpOp_ok c.K c.un _) rfl (snd_op c (i := 2) rfl (by first | exact .inl rfl | exact .inr (.inl rfl) | exact .inr (.inr rfl))) (snd_e (PE.fz (snd_lst snd_nil)))) (snd_one (snd_expr (snd_append c (k := 3) rfl (by first | exact .inl rfl | exact .inr (.inl rfl) | exact .inr (.inr rfl)) (snd_popAt c (k := 2) rfl (by first | exact .inl rfl | exact .inr (.inl rfl) | exact .inr (.inr rfl)) (PE.fz (snd_callN c (z.t__law_draw) (by show _ = _; rfl) (snd_cons (snd_var c (i := 0) rfl (by first | exact .inl rfl | exact .inr (.inl rfl) | exact .inr (.inr rfl))) (snd_cons (PE.fz (snd_len c (by show _ = _; rfl) (z.hb _ (by decide)) (snd_op c (i := 2) rfl (by first | exact .inl rfl | exact .inr (.inl rfl) | exact .inr (.inr rfl))))) snd_nil)) rfl))))))) (snd_one (snd_retV c (i := 3) rfl (by first | exact .inl rfl | exact .inr (.inl rfl) | exact .inr (.inr rfl))))))
theorem hN__law_loose : N__law_loose.Nodup := by decide
theorem sc__law_loose : FnScope N__law_loose ["_law_stream_here", "_law_thing"] (defScope (top 28)) := ⟨rfl, rfl, rfl, by decide +kernel, rfl, by decide +kernel, by decide +kernel⟩
theorem b__law_loose {X : Cx} {W : WX} {g : G} (z : Env0 g) (hN : N__law_loose.Nodup) (c : Good X W g ⟨defScope (top 28), N__law_loose, fun _ => true⟩) (fr : Frm X) : PSs X (defBody (top 28)) (tS g W m__law_loose) :=
  (snd_seq (snd_if (snd_truth c (snd_e (PE.fz (snd_isT c (by show _ = _; rfl) (z.hb _ (by decide)) (.cons (by show _ = _; rfl) (z.hb _ (by decide)) rfl (by decide) (by decide) (.cons (by show _ = _; rfl) (z.hb _ (by decide)) rfl (by decide) (by decide) .nil)) (by decide) (snd_op c (i := 1) rfl (by first | exact .inl rfl | exact .inr (.inl rfl) | exact .inr (.inr rfl)))))) (fun _ => rfl)) (snd_seq (snd_setComp c hN (i := 2) rfl rfl rfl rfl rfl (own := [("_law_each", 3)]) (snd_iter c (snd_var c (i := 1) rfl (by first | exact .inl rfl | exact .inr (.inl rfl) | exact .inr (.inr rfl)))) (by rfl) (fun Xc1 c1 => (snd_tgN c1 hN ⟨rfl, by first | exact .inl rfl | exact .inr rfl, by first | exact .inl rfl | exact .inr rfl⟩)) (fun Xc1 c1 => snd_ifs0) (fun Xc1 c1 => (PE.fz (snd_callN c1 (z.t__law_loose) (by show _ = _; rfl) (snd_cons (snd_var c1 (i := 0) rfl (by first | exact .inl rfl | exact .inr (.inl rfl) | exact .inr (.inr rfl))) (snd_cons (snd_var c1 (i := 3) rfl (by first | exact .inl rfl | exact .inr (.inl rfl) | exact .inr (.inr rfl))) snd_nil)) rfl)))) (snd_one (snd_ret (snd_ifx (snd_cmpT (cmpOp_ok c.K c.un _) rfl (snd_e (PE.fz (snd_callN c (z.t__law_draw) (by show _ = _; rfl) (snd_cons (snd_var c (i := 0) rfl (by first | exact .inl rfl | exact .inr (.inl rfl) | exact .inr (.inr rfl))) (snd_cons snd_int snd_nil)) rfl))) (snd_e snd_int)) (PE.vl (snd_var c (i := 2) rfl (by first | exact .inl rfl | exact .inr (.inl rfl) | exact .inr (.inr rfl)))) (snd_tuple c (by show _ = _; rfl) (z.hb _ (by decide)) (snd_op c (i := 2) rfl (by first | exact .inl rfl | exact .inr (.inl rfl) | exact .inr (.inr rfl)))))))) snd_nils) (snd_one (snd_retV c (i := 1) rfl (by first | exact .inl rfl | exact .inr (.inl rfl) | exact .inr (.inr rfl)))))
theorem hN__law_same : N__law_same.Nodup := by decide
theorem sc__law_same : FnScope N__law_same ["_law_found", "_law_wanted"] (defScope (top 29)) := ⟨rfl, rfl, rfl, by decide +kernel, rfl, by decide +kernel, by decide +kernel⟩
theorem b__law_same {X : Cx} {W : WX} {g : G} (z : Env0 g) (hN : N__law_same.Nodup) (c : Good X W g ⟨defScope (top 29), N__law_same, fun _ => true⟩) (fr : Frm X) : PSs X (defBody (top 29)) (tS g W m__law_same) :=
  (snd_seq (snd_if (snd_truth c (snd_e (PE.fz (snd_isT c (by show _ = _; rfl) (z.hb _ (by decide)) (.cons (by show _ = _; rfl) (z.hb _ (by decide)) rfl (by decide) (by decide) (.cons (by show _ = _; rfl) (z.hb _ (by decide)) rfl (by decide) (by decide) .nil)) (by decide) (snd_op c (i := 1) rfl (by first | exact .inl rfl | exact .inr (.inl rfl) | exact .inr (.inr rfl)))))) (fun _ => rfl)) (snd_seq (snd_if (snd_bt (snd_or (snd_cmpT (cmpOp_ok c.K c.un _) rfl (snd_e (PE.fz (snd_is1 c (by show _ = _; rfl) (z.hb _ (by decide)) (by show _ = _; rfl) (z.hb _ (by decide)) rfl (snd_op c (i := 0) rfl (by first | exact .inl rfl | exact .inr (.inl rfl) | exact .inr (.inr rfl)))))) (snd_e (PE.fz (snd_is1 c (by show _ = _; rfl) (z.hb _ (by decide)) (by show _ = _; rfl) (z.hb _ (by decide)) rfl (snd_op c (i := 1) rfl (by first | exact .inl rfl | exact .inr (.inl rfl) | exact .inr (.inr rfl))))))) (snd_or1 (snd_cmpT (cmpOp_ok c.K c.un _) rfl (snd_e (PE.fz (snd_is1 c (by show _ = _; rfl) (z.hb _ (by decide)) (by show _ = _; rfl) (z.hb _ (by decide)) rfl (snd_op c (i := 0) rfl (by first | exact .inl rfl | exact .inr (.inl rfl) | exact .inr (.inr rfl)))))) (snd_e (PE.fz (snd_is1 c (by show _ = _; rfl) (z.hb _ (by decide)) (by show _ = _; rfl) (z.hb _ (by decide)) rfl (snd_op c (i := 1) rfl (by first | exact .inl rfl | exact .inr (.inl rfl) | exact .inr (.inr rfl)))))))))) (snd_one (snd_ret (PE.vl snd_bl))) snd_nils) (snd_one (snd_ret (PE.vl (snd_andV c (snd_cmp (cmpOp_ok c.K c.un _) rfl (snd_e (PE.fz (snd_len c (by show _ = _; rfl) (z.hb _ (by decide)) (snd_op c (i := 0) rfl (by first | exact .inl rfl | exact .inr (.inl rfl) | exact .inr (.inr rfl)))))) (snd_e (PE.fz (snd_len c (by show _ = _; rfl) (z.hb _ (by decide)) (snd_op c (i := 1) rfl (by first | exact .inl rfl | exact .inr (.inl rfl) | exact .inr (.inr rfl))))))) (snd_orV1 (PE.fz (snd_all c (by show _ = _; rfl) (z.hb _ (by decide)) (snd_e (PE.fz (snd_comp c hN (own := [("_law_x", 2), ("_law_y", 3)]) (snd_zip c (by show _ = _; rfl) (z.hb _ (by decide)) (snd_var c (i := 0) rfl (by first | exact .inl rfl | exact .inr (.inl rfl) | exact .inr (.inr rfl))) (snd_var c (i := 1) rfl (by first | exact .inl rfl | exact .inr (.inl rfl) | exact .inr (.inr rfl)))) (by rfl) (fun Xc1 c1 => (snd_tgT c1 hN (.cons ⟨rfl, by first | exact .inl rfl | exact .inr rfl, by first | exact .inl rfl | exact .inr rfl⟩ (.cons ⟨rfl, by first | exact .inl rfl | exact .inr rfl, by first | exact .inl rfl | exact .inr rfl⟩ .nil)) rfl)) (fun Xc1 c1 => snd_ifs0) (fun Xc1 c1 => (PE.fz (snd_callN c1 (z.t__law_same) (by show _ = _; rfl) (snd_cons (snd_var c1 (i := 2) rfl (by first | exact .inl rfl | exact .inr (.inl rfl) | exact .inr (.inr rfl))) (snd_cons (snd_var c1 (i := 3) rfl (by first | exact .inl rfl | exact .inr (.inl rfl) | exact .inr (.inr rfl))) snd_nil)) rfl)))))))))))))) snd_nils) (snd_seq (snd_if (snd_truth c (snd_e (PE.fz (snd_is1 c (by show _ = _; rfl) (z.hb _ (by decide)) (by show _ = _; rfl) (z.hb _ (by decide)) rfl (snd_op c (i := 1) rfl (by first | exact .inl rfl | exact .inr (.inl rfl) | exact .inr (.inr rfl)))))) (fun _ => rfl)) (snd_one (snd_ret (PE.vl (snd_andV c (PE.fz (snd_is1 c (by show _ = _; rfl) (z.hb _ (by decide)) (by show _ = _; rfl) (z.hb _ (by decide)) rfl (snd_op c (i := 0) rfl (by first | exact .inl rfl | exact .inr (.inl rfl) | exact .inr (.inr rfl))))) (snd_orV1 (PE.fz (snd_callN c (z.t__law_same) (by show _ = _; rfl) (snd_cons (PE.fz (snd_listItems c (by show _ = _; rfl) (z.hb _ (by decide)) (snd_op c (i := 0) rfl (by first | exact .inl rfl | exact .inr (.inl rfl) | exact .inr (.inr rfl))))) (snd_cons (PE.fz (snd_listItems c (by show _ = _; rfl) (z.hb _ (by decide)) (snd_op c (i := 1) rfl (by first | exact .inl rfl | exact .inr (.inl rfl) | exact .inr (.inr rfl))))) snd_nil)) rfl))))))) snd_nils) (snd_seq (snd_if (snd_truth c (snd_e (PE.fz (snd_is1 c (by show _ = _; rfl) (z.hb _ (by decide)) (by show _ = _; rfl) (z.hb _ (by decide)) rfl (snd_op c (i := 1) rfl (by first | exact .inl rfl | exact .inr (.inl rfl) | exact .inr (.inr rfl)))))) (fun _ => rfl)) (snd_one (snd_ret (PE.vl (snd_andV c (PE.fz (snd_is1 c (by show _ = _; rfl) (z.hb _ (by decide)) (by show _ = _; rfl) (z.hb _ (by decide)) rfl (snd_op c (i := 0) rfl (by first | exact .inl rfl | exact .inr (.inl rfl) | exact .inr (.inr rfl))))) (snd_andV c (snd_cmp (cmpOp_ok c.K c.un _) rfl (snd_e (PE.fz (snd_is1 c (by show _ = _; rfl) (z.hb _ (by decide)) (by show _ = _; rfl) (z.hb _ (by decide)) rfl (snd_op c (i := 0) rfl (by first | exact .inl rfl | exact .inr (.inl rfl) | exact .inr (.inr rfl)))))) (snd_e (PE.fz (snd_is1 c (by show _ = _; rfl) (z.hb _ (by decide)) (by show _ = _; rfl) (z.hb _ (by decide)) rfl (snd_op c (i := 1) rfl (by first | exact .inl rfl | exact .inr (.inl rfl) | exact .inr (.inr rfl))))))) (snd_orV1 (snd_cmp (cmpOp_ok c.K c.un _) rfl (snd_op c (i := 0) rfl (by first | exact .inl rfl | exact .inr (.inl rfl) | exact .inr (.inr rfl))) (snd_op c (i := 1) rfl (by first | exact .inl rfl | exact .inr (.inl rfl) | exact .inr (.inr rfl)))))))))) snd_nils) (snd_one (snd_ret (PE.vl (snd_andV c (snd_notV c (PE.fz (snd_isT c (by show _ = _; rfl) (z.hb _ (by decide)) (.cons (by show _ = _; rfl) (z.hb _ (by decide)) rfl (by decide) (by decide) (.cons (by show _ = _; rfl) (z.hb _ (by decide)) rfl (by decide) (by decide) (.cons (by show _ = _; rfl) (z.hb _ (by decide)) rfl (by decide) (by decide) (.cons (by show _ = _; rfl) (z.hb _ (by decide)) rfl (by decide) (by decide) .nil)))) (by decide) (snd_op c (i := 0) rfl (by first | exact .inl rfl | exact .inr (.inl rfl) | exact .inr (.inr rfl)))))) (snd_orV1 (snd_cmp (cmpOp_ok c.K c.un _) rfl (snd_op c (i := 0) rfl (by first | exact .inl rfl | exact .inr (.inl rfl) | exact .inr (.inr rfl))) (snd_op c (i := 1) rfl (by first | exact .inl rfl | exact .inr (.inl rfl) | exact .inr (.inr rfl))))))))))))
theorem hN__law_sum : N__law_sum.Nodup := by decide
theorem sc__law_sum : FnScope N__law_sum ["_law_stream_here", "_law_deep", "_law_most"] (defScope (top 31)) := ⟨rfl, rfl, rfl, by decide +kernel, rfl, by decide +kernel, by decide +kernel⟩
theorem b__law_sum {X : Cx} {W : WX} {g : G} (z : Env0 g) (hN : N__law_sum.Nodup) (c : Good X W g ⟨defScope (top 31), N__law_sum, fun _ => true⟩) (fr : Frm X) : PSs X (defBody (top 31)) (tS g W m__law_sum) :=
  (snd_seq (snd_if (snd_bt (snd_or (snd_cmpT (cmpOp_ok c.K c.un _) rfl (snd_op c (i := 1) rfl (by first | exact .inl rfl | exact .inr (.inl rfl) | exact .inr (.inr rfl))) (snd_e snd_int)) (snd_or1 (snd_cmpT (cmpOp_ok c.K c.un _) rfl (snd_e (PE.fz (snd_callN c (z.t__law_draw) (by show _ = _; rfl) (snd_cons (snd_var c (i := 0) rfl (by first | exact .inl rfl | exact .inr (.inl rfl) | exact .inr (.inr rfl))) (snd_cons snd_int snd_nil)) rfl))) (snd_e snd_int))))) (snd_seq (snd_set c hN ⟨rfl, by first | exact .inl rfl | exact .inr rfl, .inl rfl⟩ (snd_callN c (z.t__law_pick) (by show _ = _; rfl) (snd_cons (snd_var c (i := 0) rfl (by first | exact .inl rfl | exact .inr (.inl rfl) | exact .inr (.inr rfl))) (snd_cons (PE.fz (snd_lst (snd_cons (snd_str (toStr_mk _).symm) (snd_cons (snd_str (toStr_mk _).symm) (snd_cons (snd_str (toStr_mk _).symm) (snd_cons (snd_str (toStr_mk _).symm) (snd_cons (snd_str (toStr_mk _).symm) snd_nil))))))) snd_nil)) rfl)) (snd_seq (snd_set c hN ⟨rfl, by first | exact .inl rfl | exact .inr rfl, .inl rfl⟩ (snd_callN c (z.t__law_pick) (by show _ = _; rfl) (snd_cons (snd_var c (i := 0) rfl (by first | exact .inl rfl | exact .inr (.inl rfl) | exact .inr (.inr rfl))) (snd_cons (PE.fz (snd_lst (snd_cons snd_int (snd_cons snd_int (snd_cons snd_int (snd_cons (PE.fz (snd_bin (binOp_ok c.K (h := h_bin .Sub) rfl) (snd_op c (i := 2) rfl (by first | exact .inl rfl | exact .inr (.inl rfl) | exact .inr (.inr rfl))) (snd_e snd_int))) (snd_cons (PE.fz (snd_callN c (z.t__law_draw) (by show _ = _; rfl) (snd_cons (snd_var c (i := 0) rfl (by first | exact .inl rfl | exact .inr (.inl rfl) | exact .inr (.inr rfl))) (snd_cons (snd_var c (i := 2) rfl (by first | exact .inl rfl | exact .inr (.inl rfl) | exact .inr (.inr rfl))) snd_nil)) rfl)) snd_nil))))))) snd_nil)) rfl)) (snd_one (snd_ret (snd_ifx (snd_cmpT (cmpOp_ok c.K c.un _) rfl (snd_e (PE.fz (snd_callN c (z.t__law_draw) (by show _ = _; rfl) (snd_cons (snd_var c (i := 0) rfl (by first | exact .inl rfl | exact .inr (.inl rfl) | exact .inr (.inr rfl))) (snd_cons snd_int snd_nil)) rfl))) (snd_e snd_int)) (snd_tup (snd_cons (snd_str (toStr_mk _).symm) (snd_cons (snd_var c (i := 5) rfl (by first | exact .inl rfl | exact .inr (.inl rfl) | exact .inr (.inr rfl))) snd_nil))) (snd_tup (snd_cons (snd_str (toStr_mk _).symm) (snd_cons (snd_var c (i := 6) rfl (by first | exact .inl rfl | exact .inr (.inl rfl) | exact .inr (.inr rfl))) snd_nil)))))))) snd_nils) (snd_seq (snd_if (snd_cmpT (cmpOp_ok c.K c.un _) rfl (snd_e (PE.fz (snd_callN c (z.t__law_draw) (by show _ = _; rfl) (snd_cons (snd_var c (i := 0) rfl (by first | exact .inl rfl | exact .inr (.inl rfl) | exact .inr (.inr rfl))) (snd_cons snd_int snd_nil)) rfl))) (snd_e snd_int)) (snd_one (snd_ret (snd_tup (snd_cons (snd_str (toStr_mk _).symm) (snd_cons (PE.fz (snd_callN c (z.t__law_sum) (by show _ = _; rfl) (snd_cons (snd_var c (i := 0) rfl (by first | exact .inl rfl | exact .inr (.inl rfl) | exact .inr (.inr rfl))) (snd_cons (PE.fz (snd_bin (binOp_ok c.K (h := h_bin .Sub) rfl) (snd_op c (i := 1) rfl (by first | exact .inl rfl | exact .inr (.inl rfl) | exact .inr (.inr rfl))) (snd_e snd_int))) (snd_cons (snd_var c (i := 2) rfl (by first | exact .inl rfl | exact .inr (.inl rfl) | exact .inr (.inr rfl))) snd_nil))) rfl)) snd_nil))))) snd_nils) (snd_seq (snd_set c hN ⟨rfl, by first | exact .inl rfl | exact .inr rfl, .inl rfl⟩ (snd_bin (binOp_ok c.K (h := h_bin .Add) rfl) (snd_e (PE.fz (snd_lst (snd_cons (snd_str (toStr_mk _).symm) (snd_cons (snd_str (toStr_mk _).symm) (snd_cons (snd_str (toStr_mk _).symm) (snd_cons (snd_str (toStr_mk _).symm) (snd_cons (snd_str (toStr_mk _).symm) snd_nil)))))))) (snd_e (PE.fz (snd_bin (binOp_ok c.K (h := h_bin .Mult) rfl) (snd_e (PE.fz (snd_lst (snd_cons (snd_str (toStr_mk _).symm) (snd_cons (snd_str (toStr_mk _).symm) (snd_cons (snd_str (toStr_mk _).symm) (snd_cons (snd_str (toStr_mk _).symm) (snd_cons (snd_str (toStr_mk _).symm) snd_nil)))))))) (snd_e (PE.fz (snd_toint c (by show _ = _; rfl) (z.hb _ (by decide)) (snd_e (snd_cmp (cmpOp_ok c.K c.un _) rfl (snd_op c (i := 2) rfl (by first | exact .inl rfl | exact .inr (.inl rfl) | exact .inr (.inr rfl))) (snd_e snd_int))))))))))) (snd_seq (snd_set c hN ⟨rfl, by first | exact .inl rfl | exact .inr rfl, .inl rfl⟩ (snd_callN c (z.t__law_sum) (by show _ = _; rfl) (snd_cons (snd_var c (i := 0) rfl (by first | exact .inl rfl | exact .inr (.inl rfl) | exact .inr (.inr rfl))) (snd_cons (PE.fz (snd_bin (binOp_ok c.K (h := h_bin .Sub) rfl) (snd_op c (i := 1) rfl (by first | exact .inl rfl | exact .inr (.inl rfl) | exact .inr (.inr rfl))) (snd_e snd_int))) (snd_cons (snd_var c (i := 2) rfl (by first | exact .inl rfl | exact .inr (.inl rfl) | exact .inr (.inr rfl))) snd_nil))) rfl)) (snd_one (snd_ret (snd_tup (snd_cons (PE.fz (snd_callN c (z.t__law_pick) (by show _ = _; rfl) (snd_cons (snd_var c (i := 0) rfl (by first | exact .inl rfl | exact .inr (.inl rfl) | exact .inr (.inr rfl))) (snd_cons (snd_var c (i := 3) rfl (by first | exact .inl rfl | exact .inr (.inl rfl) | exact .inr (.inr rfl))) snd_nil)) rfl)) (snd_cons (snd_var c (i := 4) rfl (by first | exact .inl rfl | exact .inr (.inl rfl) | exact .inr (.inr rfl))) (snd_cons (PE.fz (snd_callN c (z.t__law_sum) (by show _ = _; rfl) (snd_cons (snd_var c (i := 0) rfl (by first | exact .inl rfl | exact .inr (.inl rfl) | exact .inr (.inr rfl))) (snd_cons (PE.fz (snd_bin (binOp_ok c.K (h := h_bin .Sub) rfl) (snd_op c (i := 1) rfl (by first | exact .inl rfl | exact .inr (.inl rfl) | exact .inr (.inr rfl))) (snd_e snd_int))) (snd_cons (snd_var c (i := 2) rfl (by first | exact .inl rfl | exact .inr (.inl rfl) | exact .inr (.inr rfl))) snd_nil))) rfl)) snd_nil))))))))))
theorem hN__law_held : N__law_held.Nodup := by decide
theorem sc__law_held : FnScope N__law_held ["_law_stream_here", "_law_most"] (defScope (top 32)) := ⟨rfl, rfl, rfl, by decide +kernel, rfl, by decide +kernel, by decide +kernel⟩
theorem b__law_held {X : Cx} {W : WX} {g : G} (z : Env0 g) (hN : N__law_held.Nodup) (c : Good X W g ⟨defScope (top 32), N__law_held, fun _ => true⟩) (fr : Frm X) : PSs X (defBody (top 32)) (tS g W m__law_held) :=
  (snd_seq (snd_set c hN ⟨rfl, by first | exact .inl rfl | exact .inr rfl, .inl rfl⟩ snd_dct0) (snd_seq (snd_for c (snd_iter c (PE.fz (snd_cut c (snd_e (PE.fz (snd_callN c (z.t__law_mixed) (by show _ = _; rfl) (snd_cons (snd_var c (i := 0) rfl (by first | exact .inl rfl | exact .inr (.inl rfl) | exact .inr (.inr rfl))) (snd_cons (PE.fz (snd_lst (snd_cons (snd_str (toStr_mk _).symm) (snd_cons (snd_str (toStr_mk _).symm) (snd_cons (snd_str (toStr_mk _).symm) (snd_cons (snd_str (toStr_mk _).symm) snd_nil)))))) snd_nil)) rfl))) snd_nopart (snd_part (PE.fz (snd_callN c (z.t__law_pick) (by show _ = _; rfl) (snd_cons (snd_var c (i := 0) rfl (by first | exact .inl rfl | exact .inr (.inl rfl) | exact .inr (.inr rfl))) (snd_cons (PE.fz (snd_lst (snd_cons snd_int (snd_cons snd_int (snd_cons snd_int (snd_cons snd_int snd_nil)))))) snd_nil)) rfl)))))) (snd_tgN c hN ⟨rfl, by first | exact .inl rfl | exact .inr rfl, by first | exact .inl rfl | exact .inr rfl⟩) (snd_seq (snd_set c hN ⟨rfl, by first | exact .inl rfl | exact .inr rfl, .inl rfl⟩ (snd_callN c (z.t__law_draw) (by show _ = _; rfl) (snd_cons (snd_var c (i := 0) rfl (by first | exact .inl rfl | exact .inr (.inl rfl) | exact .inr (.inr rfl))) (snd_cons (snd_var c (i := 1) rfl (by first | exact .inl rfl | exact .inr (.inl rfl) | exact .inr (.inr rfl))) snd_nil)) rfl)) (snd_seq (snd_set c hN ⟨rfl, by first | exact .inl rfl | exact .inr rfl, .inl rfl⟩ (snd_lst (snd_cons (PE.fz (snd_tostr c (by show _ = _; rfl) (z.hb _ (by decide)) (snd_op c (i := 4) rfl (by first | exact .inl rfl | exact .inr (.inl rfl) | exact .inr (.inr rfl))))) (snd_cons (PE.fz (snd_tostr c (by show _ = _; rfl) (z.hb _ (by decide)) (snd_op c (i := 4) rfl (by first | exact .inl rfl | exact .inr (.inl rfl) | exact .inr (.inr rfl))))) (snd_cons (PE.fz (snd_bin (binOp_ok c.K (h := h_bin .Add) rfl) (snd_e (snd_str (toStr_mk _).symm)) (snd_e (PE.fz (snd_tostr c (by show _ = _; rfl) (z.hb _ (by decide)) (snd_op c (i := 4) rfl (by first | exact .inl rfl | exact .inr (.inl rfl) | exact .inr (.inr rfl)))))))) (snd_cons (snd_str (toStr_mk _).symm) (snd_cons (snd_str (toStr_mk _).symm) (snd_cons (snd_str (toStr_mk _).symm) (snd_cons (PE.fz (snd_cut c (snd_e (snd_str (toStr_mk _).symm)) snd_nopart (snd_part (PE.fz (snd_len c (by show _ = _; rfl) (z.hb _ (by decide)) (snd_e (PE.fz (snd_tostr c (by show _ = _; rfl) (z.hb _ (by decide)) (snd_e (PE.fz (snd_bin (binOp_ok c.K (h := h_bin .Sub) rfl) (snd_op c (i := 1) rfl (by first | exact .inl rfl | exact .inr (.inl rfl) | exact .inr (.inr rfl))) (snd_e snd_int)))))))))))) snd_nil))))))))) (snd_seq (snd_set c hN ⟨rfl, by first | exact .inl rfl | exact .inr rfl, .inl rfl⟩ (snd_callN c (z.t__law_pick) (by show _ = _; rfl) (snd_cons (snd_var c (i := 0) rfl (by first | exact .inl rfl | exact .inr (.inl rfl) | exact .inr (.inr rfl))) (snd_cons (PE.fz (snd_lst (snd_cons (snd_str (toStr_mk _).symm) (snd_cons (snd_str (toStr_mk _).symm) (snd_cons (snd_str (toStr_mk _).symm) (snd_cons (snd_str (toStr_mk _).symm) (snd_cons (snd_str (toStr_mk _).symm) (snd_cons (snd_str (toStr_mk _).symm) (snd_cons (snd_str (toStr_mk _).symm) (snd_cons (snd_str (toStr_mk _).symm) (snd_cons (snd_str (toStr_mk _).symm) snd_nil))))))))))) snd_nil)) rfl)) (snd_one (snd_put c (k := 2) rfl (by first | exact .inl rfl | exact .inr (.inl rfl) | exact .inr (.inr rfl)) (snd_op c (i := 3) rfl (by first | exact .inl rfl | exact .inr (.inl rfl) | exact .inr (.inr rfl))) (PE.fz (snd_ifx (snd_cmpT (cmpOp_ok c.K c.un _) rfl (snd_e (PE.fz (snd_callN c (z.t__law_draw) (by show _ = _; rfl) (snd_cons (snd_var c (i := 0) rfl (by first | exact .inl rfl | exact .inr (.inl rfl) | exact .inr (.inr rfl))) (snd_cons snd_int snd_nil)) rfl))) (snd_e snd_int)) (PE.vl (snd_var c (i := 6) rfl (by first | exact .inl rfl | exact .inr (.inl rfl) | exact .inr (.inr rfl)))) (snd_callN c (z.t__law_pick) (by show _ = _; rfl) (snd_cons (snd_var c (i := 0) rfl (by first | exact .inl rfl | exact .inr (.inl rfl) | exact .inr (.inr rfl))) (snd_cons (snd_var c (i := 5) rfl (by first | exact .inl rfl | exact .inr (.inl rfl) | exact .inr (.inr rfl))) snd_nil)) rfl))))))))) (snd_one (snd_retV c (i := 2) rfl (by first | exact .inl rfl | exact .inr (.inl rfl) | exact .inr (.inr rfl))))))
theorem hN__law_number : N__law_number.Nodup := by decide
theorem sc__law_number : FnScope N__law_number ["_law_text"] (defScope (top 33)) := ⟨rfl, rfl, rfl, by decide +kernel, rfl, by decide +kernel, by decide +kernel⟩
theorem b__law_number {X : Cx} {W : WX} {g : G} (z : Env0 g) (hN : N__law_number.Nodup) (c : Good X W g ⟨defScope (top 33), N__law_number, fun _ => true⟩) (fr : Frm X) : PSs X (defBody (top 33)) (tS g W m__law_number) :=
  (snd_seq (snd_if (snd_cmpT (cmpOp_ok c.K c.un _) rfl (snd_op c (i := 0) rfl (by first | exact .inl rfl | exact .inr (.inl rfl) | exact .inr (.inr rfl))) (snd_e (snd_str (toStr_mk _).symm))) (snd_one (snd_ret (PE.vl snd_int))) snd_nils) (snd_seq (snd_par c hN (i := 2) (j := 3) rfl rfl (by decide) rfl rfl rfl (snd_ifx (snd_cmpT (cmpOp_ok c.K c.un _) rfl (snd_e (PE.fz (snd_ix c (snd_op c (i := 0) rfl (by first | exact .inl rfl | exact .inr (.inl rfl) | exact .inr (.inr rfl))) (snd_e snd_int)))) (snd_e (snd_str (toStr_mk _).symm))) (snd_cut c (snd_op c (i := 0) rfl (by first | exact .inl rfl | exact .inr (.inl rfl) | exact .inr (.inr rfl))) (snd_part snd_int) snd_nopart) (PE.vl (snd_var c (i := 0) rfl (by first | exact .inl rfl | exact .inr (.inl rfl) | exact .inr (.inr rfl))))) (PE.vl snd_int) rfl rfl rfl rfl rfl rfl) (snd_seq (snd_for c (snd_iter c (snd_var c (i := 2) rfl (by first | exact .inl rfl | exact .inr (.inl rfl) | exact .inr (.inr rfl)))) (snd_tgN c hN ⟨rfl, by first | exact .inl rfl | exact .inr rfl, by first | exact .inl rfl | exact .inr rfl⟩) (snd_seq (snd_if (snd_cmpT (cmpOp_ok c.K c.un _) rfl (snd_op c (i := 1) rfl (by first | exact .inl rfl | exact .inr (.inl rfl) | exact .inr (.inr rfl))) (snd_e (snd_str (toStr_mk _).symm))) (snd_one (snd_ret (PE.vl snd_non))) snd_nils) (snd_one (snd_set c hN ⟨rfl, by first | exact .inl rfl | exact .inr rfl, .inl rfl⟩ (snd_bin (binOp_ok c.K (h := h_bin .Add) rfl) (snd_e (PE.fz (snd_bin (binOp_ok c.K (h := h_bin .Mult) rfl) (snd_e snd_int) (snd_op c (i := 3) rfl (by first | exact .inl rfl | exact .inr (.inl rfl) | exact .inr (.inr rfl)))))) (snd_e (PE.fz (snd_sindex c (snd_e (snd_str (toStr_mk _).symm)) (snd_op c (i := 1) rfl (by first | exact .inl rfl | exact .inr (.inl rfl) | exact .inr (.inr rfl))))))))))) (snd_seq (snd_if (snd_cmpT (cmpOp_ok c.K c.un _) rfl (snd_op c (i := 2) rfl (by first | exact .inl rfl | exact .inr (.inl rfl) | exact .inr (.inr rfl))) (snd_e (snd_str (toStr_mk _).symm))) (snd_one (snd_ret (PE.vl snd_non))) snd_nils) (snd_one (snd_ret (snd_ifx (snd_cmpT (cmpOp_ok c.K c.un _) rfl (snd_e (PE.fz (snd_ix c (snd_op c (i := 0) rfl (by first | exact .inl rfl | exact .inr (.inl rfl) | exact .inr (.inr rfl))) (snd_e snd_int)))) (snd_e (snd_str (toStr_mk _).symm))) (snd_bin (binOp_ok c.K (h := h_bin .Sub) rfl) (snd_e snd_int) (snd_op c (i := 3) rfl (by first | exact .inl rfl | exact .inr (.inl rfl) | exact .inr (.inr rfl)))) (PE.vl (snd_var c (i := 3) rfl (by first | exact .inl rfl | exact .inr (.inl rfl) | exact .inr (.inr rfl)))))))))))
theorem hN__law_worth : N__law_worth.Nodup := by decide
theorem sc__law_worth : FnScope N__law_worth ["_law_total", "_law_held_here"] (defScope (top 34)) := ⟨rfl, rfl, rfl, by decide +kernel, rfl, by decide +kernel, by decide +kernel⟩
theorem b__law_worth {X : Cx} {W : WX} {g : G} (z : Env0 g) (hN : N__law_worth.Nodup) (c : Good X W g ⟨defScope (top 34), N__law_worth, fun _ => true⟩) (fr : Frm X) : PSs X (defBody (top 34)) (tS g W m__law_worth) :=
  (snd_seq (snd_set c hN ⟨rfl, by first | exact .inl rfl | exact .inr rfl, .inl rfl⟩ (snd_ix c (snd_op c (i := 0) rfl (by first | exact .inl rfl | exact .inr (.inl rfl) | exact .inr (.inr rfl))) (snd_e snd_int))) (snd_seq (snd_if (snd_cmpT (cmpOp_ok c.K c.un _) rfl (snd_op c (i := 2) rfl (by first | exact .inl rfl | exact .inr (.inl rfl) | exact .inr (.inr rfl))) (snd_e (snd_str (toStr_mk _).symm))) (snd_one (snd_ret (snd_tup (snd_cons (snd_str (toStr_mk _).symm) (snd_cons (PE.fz (snd_ix c (snd_op c (i := 0) rfl (by first | exact .inl rfl | exact .inr (.inl rfl) | exact .inr (.inr rfl))) (snd_e snd_int))) snd_nil))))) snd_nils) (snd_seq (snd_if (snd_cmpT (cmpOp_ok c.K c.un _) rfl (snd_op c (i := 2) rfl (by first | exact .inl rfl | exact .inr (.inl rfl) | exact .inr (.inr rfl))) (snd_e (snd_str (toStr_mk _).symm))) (snd_seq (snd_set c hN ⟨rfl, by first | exact .inl rfl | exact .inr rfl, .inl rfl⟩ (snd_callN c (z.t__law_number) (by show _ = _; rfl) (snd_cons (snd_get2 c (snd_op c (i := 1) rfl (by first | exact .inl rfl | exact .inr (.inl rfl) | exact .inr (.inr rfl))) (snd_e (PE.fz (snd_ix c (snd_op c (i := 0) rfl (by first | exact .inl rfl | exact .inr (.inl rfl) | exact .inr (.inr rfl))) (snd_e snd_int)))) (snd_str (toStr_mk _).symm)) snd_nil) rfl)) (snd_one (snd_ret (snd_ifx (snd_cmpT (cmpOp_ok c.K c.un _) rfl (snd_op c (i := 5) rfl (by first | exact .inl rfl | exact .inr (.inl rfl) | exact .inr (.inr rfl))) (snd_e snd_non)) (snd_tup (snd_cons (snd_str (toStr_mk _).symm) (snd_cons (PE.fz (snd_tup (snd_cons (snd_str (toStr_mk _).symm) (snd_cons (PE.fz (snd_ix c (snd_op c (i := 0) rfl (by first | exact .inl rfl | exact .inr (.inl rfl) | exact .inr (.inr rfl))) (snd_e snd_int))) snd_nil)))) snd_nil))) (snd_tup (snd_cons (snd_str (toStr_mk _).symm) (snd_cons (snd_var c (i := 5) rfl (by first | exact .inl rfl | exact .inr (.inl rfl) | exact .inr (.inr rfl))) snd_nil))))))) snd_nils) (snd_seq (snd_setComp c hN (i := 3) rfl rfl rfl rfl rfl (own := [("_law_part", 8)]) (snd_iter c (PE.fz (snd_cut c (snd_op c (i := 0) rfl (by first | exact .inl rfl | exact .inr (.inl rfl) | exact .inr (.inr rfl))) (snd_part snd_int) snd_nopart))) (by rfl) (fun Xc1 c1 => (snd_tgN c1 hN ⟨rfl, by first | exact .inl rfl | exact .inr rfl, by first | exact .inl rfl | exact .inr rfl⟩)) (fun Xc1 c1 => snd_ifs0) (fun Xc1 c1 => (PE.fz (snd_callN c1 (z.t__law_worth) (by show _ = _; rfl) (snd_cons (snd_var c1 (i := 8) rfl (by first | exact .inl rfl | exact .inr (.inl rfl) | exact .inr (.inr rfl))) (snd_cons (snd_var c1 (i := 1) rfl (by first | exact .inl rfl | exact .inr (.inl rfl) | exact .inr (.inr rfl))) snd_nil)) rfl)))) (snd_seq (snd_setComp c hN (i := 4) rfl rfl rfl rfl rfl (own := [("_law_part", 8)]) (snd_iter c (snd_var c (i := 3) rfl (by first | exact .inl rfl | exact .inr (.inl rfl) | exact .inr (.inr rfl)))) (by rfl) (fun Xc1 c1 => (snd_tgN c1 hN ⟨rfl, by first | exact .inl rfl | exact .inr rfl, by first | exact .inl rfl | exact .inr rfl⟩)) (fun Xc1 c1 => (snd_ifs1 (snd_cmpT (cmpOp_ok c1.K c1.un _) rfl (snd_e (PE.fz (snd_ix c1 (snd_op c1 (i := 8) rfl (by first | exact .inl rfl | exact .inr (.inl rfl) | exact .inr (.inr rfl))) (snd_e snd_int)))) (snd_e (snd_str (toStr_mk _).symm))))) (fun Xc1 c1 => (snd_var c1 (i := 8) rfl (by first | exact .inl rfl | exact .inr (.inl rfl) | exact .inr (.inr rfl))))) (snd_seq (snd_if (snd_cmpT (cmpOp_ok c.K c.un _) rfl (snd_op c (i := 4) rfl (by first | exact .inl rfl | exact .inr (.inl rfl) | exact .inr (.inr rfl))) (snd_e (PE.fz (snd_lst snd_nil)))) (snd_one (snd_ret (snd_ix c (snd_op c (i := 4) rfl (by first | exact .inl rfl | exact .inr (.inl rfl) | exact .inr (.inr rfl))) (snd_e snd_int)))) snd_nils) (snd_seq (snd_par c hN (i := 6) (j := 7) rfl rfl (by decide) rfl rfl rfl (snd_ix c (snd_e (PE.fz (snd_ix c (snd_op c (i := 3) rfl (by first | exact .inl rfl | exact .inr (.inl rfl) | exact .inr (.inr rfl))) (snd_e snd_int)))) (snd_e snd_int)) (snd_ix c (snd_e (PE.fz (snd_ix c (snd_op c (i := 3) rfl (by first | exact .inl rfl | exact .inr (.inl rfl) | exact .inr (.inr rfl))) (snd_e (PE.fz (snd_neg (snd_e snd_int))))))) (snd_e snd_int)) rfl rfl rfl rfl rfl rfl) (snd_seq (snd_if (snd_cmpT (cmpOp_ok c.K c.un _) rfl (snd_op c (i := 2) rfl (by first | exact .inl rfl | exact .inr (.inl rfl) | exact .inr (.inr rfl))) (snd_e (snd_str (toStr_mk _).symm))) (snd_one (snd_ret (snd_tup (snd_cons (snd_str (toStr_mk _).symm) (snd_cons (PE.fz (snd_bin (binOp_ok c.K (h := h_bin .Sub) rfl) (snd_e snd_int) (snd_op c (i := 6) rfl (by first | exact .inl rfl | exact .inr (.inl rfl) | exact .inr (.inr rfl))))) snd_nil))))) snd_nils) (snd_seq (snd_if (snd_cmpT (cmpOp_ok c.K c.un _) rfl (snd_op c (i := 2) rfl (by first | exact .inl rfl | exact .inr (.inl rfl) | exact .inr (.inr rfl))) (snd_e (PE.fz (snd_tup (snd_cons (snd_str (toStr_mk _).symm) (snd_cons (snd_str (toStr_mk _).symm) snd_nil)))))) (snd_one (snd_ret (snd_callN c (z.t__law_parted) (by show _ = _; rfl) (snd_cons (snd_var c (i := 2) rfl (by first | exact .inl rfl | exact .inr (.inl rfl) | exact .inr (.inr rfl))) (snd_cons (snd_var c (i := 6) rfl (by first | exact .inl rfl | exact .inr (.inl rfl) | exact .inr (.inr rfl))) (snd_cons (snd_var c (i := 7) rfl (by first | exact .inl rfl | exact .inr (.inl rfl) | exact .inr (.inr rfl))) snd_nil))) rfl))) snd_nils) (snd_seq (snd_if (snd_cmpT (cmpOp_ok c.K c.un _) rfl (snd_op c (i := 2) rfl (by first | exact .inl rfl | exact .inr (.inl rfl) | exact .inr (.inr rfl))) (snd_e (PE.fz (snd_tup (snd_cons (snd_str (toStr_mk _).symm) (snd_cons (snd_str (toStr_mk _).symm) (snd_cons (snd_str (toStr_mk _).symm) snd_nil))))))) (snd_one (snd_ret (snd_tup (snd_cons (snd_str (toStr_mk _).symm) (snd_cons (PE.fz (snd_ifx (snd_cmpT (cmpOp_ok c.K c.un _) rfl (snd_op c (i := 2) rfl (by first | exact .inl rfl | exact .inr (.inl rfl) | exact .inr (.inr rfl))) (snd_e (snd_str (toStr_mk _).symm))) (snd_toint c (by show _ = _; rfl) (z.hb _ (by decide)) (snd_e (snd_orV c (snd_cmp (cmpOp_ok c.K c.un _) rfl (snd_op c (i := 6) rfl (by first | exact .inl rfl | exact .inr (.inl rfl) | exact .inr (.inr rfl))) (snd_op c (i := 7) rfl (by first | exact .inl rfl | exact .inr (.inl rfl) | exact .inr (.inr rfl)))) (snd_orV1 (snd_andV c (snd_cmp (cmpOp_ok c.K c.un _) rfl (snd_op c (i := 2) rfl (by first | exact .inl rfl | exact .inr (.inl rfl) | exact .inr (.inr rfl))) (snd_e (snd_str (toStr_mk _).symm))) (snd_orV1 (snd_cmp (cmpOp_ok c.K c.un _) rfl (snd_op c (i := 6) rfl (by first | exact .inl rfl | exact .inr (.inl rfl) | exact .inr (.inr rfl))) (snd_op c (i := 7) rfl (by first | exact .inl rfl | exact .inr (.inl rfl) | exact .inr (.inr rfl)))))))))) (snd_toint c (by show _ = _; rfl) (z.hb _ (by decide)) (snd_e (snd_cmp (cmpOp_ok c.K c.un _) rfl (snd_op c (i := 6) rfl (by first | exact .inl rfl | exact .inr (.inl rfl) | exact .inr (.inr rfl))) (snd_op c (i := 7) rfl (by first | exact .inl rfl | exact .inr (.inl rfl) | exact .inr (.inr rfl)))))))) snd_nil))))) snd_nils) (snd_one (snd_ret (snd_tup (snd_cons (snd_str (toStr_mk _).symm) (snd_cons (PE.fz (snd_ifx (snd_cmpT (cmpOp_ok c.K c.un _) rfl (snd_op c (i := 2) rfl (by first | exact .inl rfl | exact .inr (.inl rfl) | exact .inr (.inr rfl))) (snd_e (snd_str (toStr_mk _).symm))) (snd_bin (binOp_ok c.K (h := h_bin .Add) rfl) (snd_op c (i := 6) rfl (by first | exact .inl rfl | exact .inr (.inl rfl) | exact .inr (.inr rfl))) (snd_op c (i := 7) rfl (by first | exact .inl rfl | exact .inr (.inl rfl) | exact .inr (.inr rfl)))) (snd_ifx (snd_cmpT (cmpOp_ok c.K c.un _) rfl (snd_op c (i := 2) rfl (by first | exact .inl rfl | exact .inr (.inl rfl) | exact .inr (.inr rfl))) (snd_e (snd_str (toStr_mk _).symm))) (snd_bin (binOp_ok c.K (h := h_bin .Sub) rfl) (snd_op c (i := 6) rfl (by first | exact .inl rfl | exact .inr (.inl rfl) | exact .inr (.inr rfl))) (snd_op c (i := 7) rfl (by first | exact .inl rfl | exact .inr (.inl rfl) | exact .inr (.inr rfl)))) (snd_bin (binOp_ok c.K (h := h_bin .Mult) rfl) (snd_op c (i := 6) rfl (by first | exact .inl rfl | exact .inr (.inl rfl) | exact .inr (.inr rfl))) (snd_op c (i := 7) rfl (by first | exact .inl rfl | exact .inr (.inl rfl) | exact .inr (.inr rfl))))))) snd_nil)))))))))))))))
theorem hN__law_parted : N__law_parted.Nodup := by decide
theorem sc__law_parted : FnScope N__law_parted ["_law_word", "_law_one", "_law_other"] (defScope (top 35)) := ⟨rfl, rfl, rfl, by decide +kernel, rfl, by decide +kernel, by decide +kernel⟩
theorem b__law_parted {X : Cx} {W : WX} {g : G} (z : Env0 g) (hN : N__law_parted.Nodup) (c : Good X W g ⟨defScope (top 35), N__law_parted, fun _ => true⟩) (fr : Frm X) : PSs X (defBody (top 35)) (tS g W m__law_parted) :=
  (snd_seq (snd_if (snd_cmpT (cmpOp_ok c.K c.un _) rfl (snd_op c (i := 2) rfl (by first | exact .inl rfl | exact .inr (.inl rfl) | exact .inr (.inr rfl))) (snd_e snd_int)) (snd_one (snd_ret (snd_tup (snd_cons (snd_str (toStr_mk _).symm) (snd_cons (PE.fz (snd_tup (snd_cons (snd_str (toStr_mk _).symm) snd_nil))) snd_nil))))) snd_nils) (snd_seq (snd_set c hN ⟨rfl, by first | exact .inl rfl | exact .inr rfl, .inl rfl⟩ (snd_bin (binOp_ok c.K (h := h_bin .FloorDiv) rfl) (snd_e (PE.fz (snd_abs c (by show _ = _; rfl) (z.hb _ (by decide)) (snd_op c (i := 1) rfl (by first | exact .inl rfl | exact .inr (.inl rfl) | exact .inr (.inr rfl)))))) (snd_e (PE.fz (snd_abs c (by show _ = _; rfl) (z.hb _ (by decide)) (snd_op c (i := 2) rfl (by first | exact .inl rfl | exact .inr (.inl rfl) | exact .inr (.inr rfl)))))))) (snd_seq (snd_set c hN ⟨rfl, by first | exact .inl rfl | exact .inr rfl, .inl rfl⟩ (snd_ifx (snd_cmpT (cmpOp_ok c.K c.un _) rfl (snd_e (snd_cmp (cmpOp_ok c.K c.un _) rfl (snd_op c (i := 1) rfl (by first | exact .inl rfl | exact .inr (.inl rfl) | exact .inr (.inr rfl))) (snd_e snd_int))) (snd_e (snd_cmp (cmpOp_ok c.K c.un _) rfl (snd_op c (i := 2) rfl (by first | exact .inl rfl | exact .inr (.inl rfl) | exact .inr (.inr rfl))) (snd_e snd_int)))) (PE.vl (snd_var c (i := 3) rfl (by first | exact .inl rfl | exact .inr (.inl rfl) | exact .inr (.inr rfl)))) (snd_bin (binOp_ok c.K (h := h_bin .Sub) rfl) (snd_e snd_int) (snd_op c (i := 3) rfl (by first | exact .inl rfl | exact .inr (.inl rfl) | exact .inr (.inr rfl)))))) (snd_one (snd_ret (snd_tup (snd_cons (snd_str (toStr_mk _).symm) (snd_cons (PE.fz (snd_ifx (snd_cmpT (cmpOp_ok c.K c.un _) rfl (snd_op c (i := 0) rfl (by first | exact .inl rfl | exact .inr (.inl rfl) | exact .inr (.inr rfl))) (snd_e (snd_str (toStr_mk _).symm))) (PE.vl (snd_var c (i := 3) rfl (by first | exact .inl rfl | exact .inr (.inl rfl) | exact .inr (.inr rfl)))) (snd_bin (binOp_ok c.K (h := h_bin .Sub) rfl) (snd_op c (i := 1) rfl (by first | exact .inl rfl | exact .inr (.inl rfl) | exact .inr (.inr rfl))) (snd_e (PE.fz (snd_bin (binOp_ok c.K (h := h_bin .Mult) rfl) (snd_op c (i := 3) rfl (by first | exact .inl rfl | exact .inr (.inl rfl) | exact .inr (.inr rfl))) (snd_op c (i := 2) rfl (by first | exact .inl rfl | exact .inr (.inl rfl) | exact .inr (.inr rfl))))))))) snd_nil))))))))
theorem hN__law_one_right : N__law_one_right.Nodup := by decide
theorem sc__law_one_right : FnScope N__law_one_right ["_law_stream_here", "_law_total", "_law_held_here"] (defScope (top 36)) := ⟨rfl, rfl, rfl, by decide +kernel, rfl, by decide +kernel, by decide +kernel⟩
theorem b__law_one_right {X : Cx} {W : WX} {g : G} (z : Env0 g) (hN : N__law_one_right.Nodup) (c : Good X W g ⟨defScope (top 36), N__law_one_right, fun _ => true⟩) (fr : Frm X) : PSs X (defBody (top 36)) (tS g W m__law_one_right) :=
  (snd_seq (snd_par c hN (i := 4) (j := 5) rfl rfl (by decide) rfl rfl rfl (snd_lst (snd_cons (PE.fz (snd_callN c (z.t__law_loose) (by show _ = _; rfl) (snd_cons (snd_var c (i := 0) rfl (by first | exact .inl rfl | exact .inr (.inl rfl) | exact .inr (.inr rfl))) (snd_cons (snd_var c (i := 1) rfl (by first | exact .inl rfl | exact .inr (.inl rfl) | exact .inr (.inr rfl))) snd_nil)) rfl)) (snd_cons (PE.fz (snd_dict c (by show _ = _; rfl) (z.hb _ (by decide)) (snd_e (PE.fz (snd_callN c (z.t__law_mixed) (by show _ = _; rfl) (snd_cons (snd_var c (i := 0) rfl (by first | exact .inl rfl | exact .inr (.inl rfl) | exact .inr (.inr rfl))) (snd_cons (PE.fz (snd_listItems c (by show _ = _; rfl) (z.hb _ (by decide)) (snd_op c (i := 2) rfl (by first | exact .inl rfl | exact .inr (.inl rfl) | exact .inr (.inr rfl))))) snd_nil)) rfl))))) snd_nil))) (snd_callN c (z.t__law_worth) (by show _ = _; rfl) (snd_cons (snd_var c (i := 1) rfl (by first | exact .inl rfl | exact .inr (.inl rfl) | exact .inr (.inr rfl))) (snd_cons (snd_var c (i := 2) rfl (by first | exact .inl rfl | exact .inr (.inl rfl) | exact .inr (.inr rfl))) snd_nil)) rfl) rfl rfl rfl rfl rfl rfl) (snd_seq (snd_set c hN ⟨rfl, by first | exact .inl rfl | exact .inr rfl, .inl rfl⟩ (snd_repr z.sys c (by show _ = _; rfl) (z.hb _ (by decide)) (snd_op c (i := 4) rfl (by first | exact .inl rfl | exact .inr (.inl rfl) | exact .inr (.inr rfl))))) (snd_seq (snd_if (snd_not (snd_truth c (snd_e (PE.fz (snd_callN c (z.t__law_same) (by show _ = _; rfl) (snd_cons (PE.fz (snd_lst (snd_cons (PE.fz (snd_callN c (z.t_sum_value) (by show _ = _; rfl) (snd_cons (PE.fz (snd_ix c (snd_op c (i := 4) rfl (by first | exact .inl rfl | exact .inr (.inl rfl) | exact .inr (.inr rfl))) (snd_e snd_int))) (snd_cons (PE.fz (snd_ix c (snd_op c (i := 4) rfl (by first | exact .inl rfl | exact .inr (.inl rfl) | exact .inr (.inr rfl))) (snd_e snd_int))) snd_nil)) rfl)) (snd_cons (PE.fz (snd_callKN0 c z.t_sum_value (by show _ = _; rfl) (ks := ["held", "total"]) (perm := [1, 0]) (fun _ _ _ _ _ _ us ws h1 h2 => match us, h1, ws, h2 with | [], _, [_, _], _ => rfl) rfl (by decide) rfl (.cons (snd_var c (i := 2) rfl (by first | exact .inl rfl | exact .inr (.inl rfl) | exact .inr (.inr rfl))) (.cons (snd_var c (i := 1) rfl (by first | exact .inl rfl | exact .inr (.inl rfl) | exact .inr (.inr rfl))) .nil)))) snd_nil)))) (snd_cons (PE.fz (snd_lst (snd_cons (snd_var c (i := 5) rfl (by first | exact .inl rfl | exact .inr (.inl rfl) | exact .inr (.inr rfl))) (snd_cons (snd_var c (i := 5) rfl (by first | exact .inl rfl | exact .inr (.inl rfl) | exact .inr (.inr rfl))) snd_nil)))) snd_nil)) rfl))) (fun _ => rfl))) (snd_one (snd_ret (PE.vl snd_bl))) snd_nils) (snd_one (snd_ret (PE.vl (snd_cmp (cmpOp_ok c.K c.un _) rfl (snd_e (PE.fz (snd_repr z.sys c (by show _ = _; rfl) (z.hb _ (by decide)) (snd_op c (i := 4) rfl (by first | exact .inl rfl | exact .inr (.inl rfl) | exact .inr (.inr rfl)))))) (snd_op c (i := 3) rfl (by first | exact .inl rfl | exact .inr (.inl rfl) | exact .inr (.inr rfl))))))))))
theorem hN__law_refused_right : N__law_refused_right.Nodup := by decide
theorem sc__law_refused_right : FnScope N__law_refused_right ["_law_stream_here", "_law_total"] (defScope (top 37)) := ⟨rfl, rfl, rfl, by decide +kernel, rfl, by decide +kernel, by decide +kernel⟩
theorem b__law_refused_right {X : Cx} {W : WX} {g : G} (z : Env0 g) (hN : N__law_refused_right.Nodup) (c : Good X W g ⟨defScope (top 37), N__law_refused_right, fun _ => true⟩) (fr : Frm X) (la : LamAt X g) : PSs X (defBody (top 37)) (tS g W m__law_refused_right) :=
  (snd_seq (snd_set c hN ⟨rfl, by first | exact .inl rfl | exact .inr rfl, .inl rfl⟩ (snd_lst (snd_cons snd_non (snd_cons snd_int (snd_cons (snd_str (toStr_mk _).symm) (snd_cons (PE.fz (snd_lst snd_nil)) (snd_cons (PE.fz (snd_tup snd_nil)) (snd_cons (PE.fz snd_dct0) (snd_cons snd_bl (snd_cons (PE.fz (snd_tup (snd_cons (snd_str (toStr_mk _).symm) snd_nil))) (snd_cons (PE.fz (snd_tup (snd_cons (snd_str (toStr_mk _).symm) (snd_cons (PE.fz (snd_neg (snd_e snd_int))) snd_nil)))) (snd_cons (PE.fz (snd_tup (snd_cons (snd_str (toStr_mk _).symm) (snd_cons snd_bl snd_nil)))) (snd_cons (PE.fz (snd_tup (snd_cons (snd_str (toStr_mk _).symm) (snd_cons (snd_str (toStr_mk _).symm) snd_nil)))) (snd_cons (PE.fz (snd_tup (snd_cons (snd_str (toStr_mk _).symm) snd_nil))) snd_nil)))))))))))))) (snd_seq (snd_expr (snd_extend c (k := 2) rfl (by first | exact .inl rfl | exact .inr (.inl rfl) | exact .inr (.inr rfl)) (PE.fz (snd_lst (snd_cons (PE.fz (snd_tup (snd_cons (snd_str (toStr_mk _).symm) (snd_cons (PE.fz (snd_bin (binOp_ok c.K (h := h_bin .Pow) rfl) (snd_e snd_int) (snd_e snd_int))) snd_nil)))) (snd_cons (PE.fz (snd_tup (snd_cons (snd_str (toStr_mk _).symm) (snd_cons snd_int (snd_cons snd_int snd_nil))))) (snd_cons (PE.fz (snd_tup (snd_cons (snd_str (toStr_mk _).symm) (snd_cons (snd_str (toStr_mk _).symm) snd_nil)))) (snd_cons (PE.fz (snd_tup (snd_cons (snd_str (toStr_mk _).symm) (snd_cons snd_int snd_nil)))) (snd_cons (PE.fz (snd_tup (snd_cons (snd_str (toStr_mk _).symm) snd_nil))) (snd_cons (PE.fz (snd_tup (snd_cons (snd_str (toStr_mk _).symm) (snd_cons (snd_str (toStr_mk _).symm) snd_nil)))) snd_nil)))))))))) (snd_seq (snd_expr (snd_extend c (k := 2) rfl (by first | exact .inl rfl | exact .inr (.inl rfl) | exact .inr (.inr rfl)) (PE.fz (snd_lst (snd_cons (PE.fz (snd_tup (snd_cons (snd_str (toStr_mk _).symm) snd_nil))) (snd_cons (PE.fz (snd_tup (snd_cons (snd_str (toStr_mk _).symm) (snd_cons (snd_var c (i := 1) rfl (by first | exact .inl rfl | exact .inr (.inl rfl) | exact .inr (.inr rfl))) (snd_cons (snd_var c (i := 1) rfl (by first | exact .inl rfl | exact .inr (.inl rfl) | exact .inr (.inr rfl))) snd_nil))))) (snd_cons (PE.fz (snd_tup (snd_cons (snd_str (toStr_mk _).symm) (snd_cons (snd_var c (i := 1) rfl (by first | exact .inl rfl | exact .inr (.inl rfl) | exact .inr (.inr rfl))) snd_nil)))) (snd_cons (PE.fz (snd_tup (snd_cons (snd_str (toStr_mk _).symm) (snd_cons (snd_var c (i := 1) rfl (by first | exact .inl rfl | exact .inr (.inl rfl) | exact .inr (.inr rfl))) (snd_cons (snd_var c (i := 1) rfl (by first | exact .inl rfl | exact .inr (.inl rfl) | exact .inr (.inr rfl))) (snd_cons (snd_var c (i := 1) rfl (by first | exact .inl rfl | exact .inr (.inl rfl) | exact .inr (.inr rfl))) snd_nil)))))) (snd_cons (PE.fz (snd_tup (snd_cons (snd_str (toStr_mk _).symm) (snd_cons (snd_var c (i := 1) rfl (by first | exact .inl rfl | exact .inr (.inl rfl) | exact .inr (.inr rfl))) (snd_cons (snd_var c (i := 1) rfl (by first | exact .inl rfl | exact .inr (.inl rfl) | exact .inr (.inr rfl))) snd_nil))))) snd_nil))))))))) (snd_seq (snd_expr (snd_extend c (k := 2) rfl (by first | exact .inl rfl | exact .inr (.inl rfl) | exact .inr (.inr rfl)) (PE.fz (snd_lst (snd_cons (PE.fz (snd_tup (snd_cons (snd_str (toStr_mk _).symm) (snd_cons (snd_var c (i := 1) rfl (by first | exact .inl rfl | exact .inr (.inl rfl) | exact .inr (.inr rfl))) (snd_cons snd_non snd_nil))))) (snd_cons (PE.fz (snd_tup (snd_cons (snd_str (toStr_mk _).symm) (snd_cons snd_non (snd_cons (snd_var c (i := 1) rfl (by first | exact .inl rfl | exact .inr (.inl rfl) | exact .inr (.inr rfl))) snd_nil))))) (snd_cons (PE.fz (snd_tup (snd_cons (snd_str (toStr_mk _).symm) (snd_cons snd_int snd_nil)))) (snd_cons (PE.fz (snd_tup (snd_cons (PE.fz (snd_lst (snd_cons (snd_str (toStr_mk _).symm) snd_nil))) (snd_cons snd_int snd_nil)))) (snd_cons (PE.fz (snd_tup (snd_cons (snd_str (toStr_mk _).symm) (snd_cons (snd_var c (i := 1) rfl (by first | exact .inl rfl | exact .inr (.inl rfl) | exact .inr (.inr rfl))) (snd_cons (snd_var c (i := 1) rfl (by first | exact .inl rfl | exact .inr (.inl rfl) | exact .inr (.inr rfl))) snd_nil))))) snd_nil))))))))) (snd_seq (snd_for c (snd_iter c (snd_var c (i := 2) rfl (by first | exact .inl rfl | exact .inr (.inl rfl) | exact .inr (.inr rfl)))) (snd_tgN c hN ⟨rfl, by first | exact .inl rfl | exact .inr rfl, by first | exact .inl rfl | exact .inr rfl⟩) (snd_one (snd_for c (snd_iter c (PE.fz (snd_ifx (snd_cmpT (cmpOp_ok c.K c.un _) rfl (snd_op c (i := 3) rfl (by first | exact .inl rfl | exact .inr (.inl rfl) | exact .inr (.inr rfl))) (snd_e snd_non)) (snd_tup (snd_cons (snd_var c (i := 3) rfl (by first | exact .inl rfl | exact .inr (.inl rfl) | exact .inr (.inr rfl))) (snd_cons (PE.fz (snd_tup (snd_cons (snd_str (toStr_mk _).symm) (snd_cons (snd_var c (i := 1) rfl (by first | exact .inl rfl | exact .inr (.inl rfl) | exact .inr (.inr rfl))) (snd_cons (snd_var c (i := 3) rfl (by first | exact .inl rfl | exact .inr (.inl rfl) | exact .inr (.inr rfl))) snd_nil))))) snd_nil))) (snd_tup (snd_cons (snd_var c (i := 3) rfl (by first | exact .inl rfl | exact .inr (.inl rfl) | exact .inr (.inr rfl))) snd_nil))))) (snd_tgN c hN ⟨rfl, by first | exact .inl rfl | exact .inr rfl, by first | exact .inl rfl | exact .inr rfl⟩) (snd_one (snd_if (snd_not (snd_truth c (snd_e (PE.fz (snd_callN c (z.t__law_same) (by show _ = _; rfl) (snd_cons (PE.fz (snd_lamN c fr z.t__law_met la (by show _ = _; rfl) sc__law_met rfl (by first | exact .inl rfl | exact .inr (.inl rfl) | exact .inr (.inr rfl)) (LamX.lamS_by (by rfl)) rfl (by intros; rfl) (fun X' W' cl => (snd_callN cl (z.t_sum_value) (by show _ = _; rfl) (snd_cons (snd_var cl (i := 4) rfl (by first | exact .inl rfl | exact .inr (.inl rfl) | exact .inr (.inr rfl))) (snd_cons snd_non snd_nil)) rfl)) (fun X0 W0 lm lf Fg rg c0 fr0 hl => b__law_met z hN__law_met c0 fr0 hl))) (snd_cons (PE.fz (snd_tup (snd_cons (snd_str (toStr_mk _).symm) (snd_cons (snd_var c (i := 4) rfl (by first | exact .inl rfl | exact .inr (.inl rfl) | exact .inr (.inr rfl))) snd_nil)))) snd_nil)) rfl))) (fun _ => rfl))) (snd_one (snd_ret (PE.vl snd_bl))) snd_nils))))) (snd_seq (snd_set c hN ⟨rfl, by first | exact .inl rfl | exact .inr rfl, .inl rfl⟩ (snd_lst (snd_cons snd_non (snd_cons snd_int (snd_cons (PE.fz (snd_lst snd_nil)) (snd_cons (snd_str (toStr_mk _).symm) (snd_cons snd_bl (snd_cons (PE.fz (snd_dct (.cons (snd_str (toStr_mk _).symm) (snd_str (toStr_mk _).symm) .nil) rfl rfl (by simp) (by decide))) (snd_cons (PE.fz (snd_dct (.cons snd_int (snd_str (toStr_mk _).symm) .nil) rfl rfl (by simp) (by decide))) (snd_cons (PE.fz (snd_dct (.cons (snd_str (toStr_mk _).symm) snd_int .nil) rfl rfl (by simp) (by decide))) (snd_cons (PE.fz (snd_dct (.cons (snd_str (toStr_mk _).symm) snd_non .nil) rfl rfl (by simp) (by decide))) (snd_cons (PE.fz (snd_dct (.cons (snd_str (toStr_mk _).symm) (PE.fz (snd_lst (snd_cons (snd_str (toStr_mk _).symm) snd_nil))) .nil) rfl rfl (by simp) (by decide))) (snd_cons (PE.fz (snd_dct (.cons (snd_str (toStr_mk _).symm) (snd_str (toStr_mk _).symm) .nil) rfl rfl (by simp) (by decide))) snd_nil))))))))))))) (snd_seq (snd_for c (snd_iter c (snd_var c (i := 2) rfl (by first | exact .inl rfl | exact .inr (.inl rfl) | exact .inr (.inr rfl)))) (snd_tgN c hN ⟨rfl, by first | exact .inl rfl | exact .inr rfl, by first | exact .inl rfl | exact .inr rfl⟩) (snd_one (snd_if (snd_not (snd_truth c (snd_e (PE.fz (snd_callN c (z.t__law_same) (by show _ = _; rfl) (snd_cons (PE.fz (snd_lamN c fr z.t__law_met la (by show _ = _; rfl) sc__law_met rfl (by first | exact .inl rfl | exact .inr (.inl rfl) | exact .inr (.inr rfl)) (LamX.lamS_by (by rfl)) rfl (by intros; rfl) (fun X' W' cl => (snd_callN cl (z.t_sum_value) (by show _ = _; rfl) (snd_cons (snd_var cl (i := 1) rfl (by first | exact .inl rfl | exact .inr (.inl rfl) | exact .inr (.inr rfl))) (snd_cons (snd_var cl (i := 3) rfl (by first | exact .inl rfl | exact .inr (.inl rfl) | exact .inr (.inr rfl))) snd_nil)) rfl)) (fun X0 W0 lm lf Fg rg c0 fr0 hl => b__law_met z hN__law_met c0 fr0 hl))) (snd_cons (PE.fz (snd_tup (snd_cons (snd_str (toStr_mk _).symm) (snd_cons (snd_var c (i := 3) rfl (by first | exact .inl rfl | exact .inr (.inl rfl) | exact .inr (.inr rfl))) snd_nil)))) snd_nil)) rfl))) (fun _ => rfl))) (snd_one (snd_ret (PE.vl snd_bl))) snd_nils))) (snd_one (snd_ret (PE.vl snd_bl))))))))))
theorem hN_law : N_law.Nodup := by decide
theorem sc_law : FnScope N_law ["_law_script"] (defScope (top 38)) := ⟨rfl, rfl, rfl, by decide +kernel, rfl, by decide +kernel, by decide +kernel⟩
theorem b_law {X : Cx} {W : WX} {g : G} (z : Env0 g) (hN : N_law.Nodup) (c : Good X W g ⟨defScope (top 38), N_law, fun _ => true⟩) (fr : Frm X) : PSs X (defBody (top 38)) (tS g W m_law) :=
  (snd_seq (snd_for c (snd_range1 c (by show _ = _; rfl) (z.hb _ (by decide)) snd_int) (snd_tgN c hN ⟨rfl, by first | exact .inl rfl | exact .inr rfl, by first | exact .inl rfl | exact .inr rfl⟩) (snd_seq (snd_set c hN ⟨rfl, by first | exact .inl rfl | exact .inr rfl, .inl rfl⟩ (snd_callN c (z.t__law_stream) (by show _ = _; rfl) (snd_cons (snd_var c (i := 0) rfl (by first | exact .inl rfl | exact .inr (.inl rfl) | exact .inr (.inr rfl))) (snd_cons (snd_var c (i := 1) rfl (by first | exact .inl rfl | exact .inr (.inl rfl) | exact .inr (.inr rfl))) snd_nil)) rfl)) (snd_seq (snd_for c (snd_iter c (PE.fz (snd_tup (snd_cons snd_int (snd_cons snd_int (snd_cons (PE.fz (snd_bin (binOp_ok c.K (h := h_bin .Pow) rfl) (snd_e snd_int) (snd_e snd_int))) snd_nil)))))) (snd_tgN c hN ⟨rfl, by first | exact .inl rfl | exact .inr rfl, by first | exact .inl rfl | exact .inr rfl⟩) (snd_seq (snd_set c hN ⟨rfl, by first | exact .inl rfl | exact .inr rfl, .inl rfl⟩ (snd_callN c (z.t__law_held) (by show _ = _; rfl) (snd_cons (snd_var c (i := 2) rfl (by first | exact .inl rfl | exact .inr (.inl rfl) | exact .inr (.inr rfl))) (snd_cons (snd_var c (i := 3) rfl (by first | exact .inl rfl | exact .inr (.inl rfl) | exact .inr (.inr rfl))) snd_nil)) rfl)) (snd_seq (snd_setComp c hN (i := 9) rfl rfl rfl rfl rfl (own := [("_law_k", 12)]) (snd_range1 c (by show _ = _; rfl) (z.hb _ (by decide)) snd_int) (by rfl) (fun Xc1 c1 => (snd_tgN c1 hN ⟨rfl, by first | exact .inl rfl | exact .inr rfl, by first | exact .inl rfl | exact .inr rfl⟩)) (fun Xc1 c1 => snd_ifs0) (fun Xc1 c1 => (PE.fz (snd_callN c1 (z.t__law_sum) (by show _ = _; rfl) (snd_cons (snd_var c1 (i := 2) rfl (by first | exact .inl rfl | exact .inr (.inl rfl) | exact .inr (.inr rfl))) (snd_cons (PE.fz (snd_bin (binOp_ok c1.K (h := h_bin .Add) rfl) (snd_e snd_int) (snd_e (PE.fz (snd_callN c1 (z.t__law_draw) (by show _ = _; rfl) (snd_cons (snd_var c1 (i := 2) rfl (by first | exact .inl rfl | exact .inr (.inl rfl) | exact .inr (.inr rfl))) (snd_cons snd_int snd_nil)) rfl))))) (snd_cons (snd_var c1 (i := 3) rfl (by first | exact .inl rfl | exact .inr (.inl rfl) | exact .inr (.inr rfl))) snd_nil))) rfl)))) (snd_one (snd_for c (snd_iter c (PE.fz (snd_bin (binOp_ok c.K (h := h_bin .Add) rfl) (snd_op c (i := 9) rfl (by first | exact .inl rfl | exact .inr (.inl rfl) | exact .inr (.inr rfl))) (snd_e (PE.fz (snd_cut c (snd_op c (i := 9) rfl (by first | exact .inl rfl | exact .inr (.inl rfl) | exact .inr (.inr rfl))) snd_nopart (snd_part snd_int))))))) (snd_tgN c hN ⟨rfl, by first | exact .inl rfl | exact .inr rfl, by first | exact .inl rfl | exact .inr rfl⟩) (snd_one (snd_if (snd_not (snd_truth c (snd_e (PE.fz (snd_callN c (z.t__law_one_right) (by show _ = _; rfl) (snd_cons (snd_var c (i := 2) rfl (by first | exact .inl rfl | exact .inr (.inl rfl) | exact .inr (.inr rfl))) (snd_cons (snd_var c (i := 10) rfl (by first | exact .inl rfl | exact .inr (.inl rfl) | exact .inr (.inr rfl))) (snd_cons (snd_var c (i := 8) rfl (by first | exact .inl rfl | exact .inr (.inl rfl) | exact .inr (.inr rfl))) snd_nil))) rfl))) (fun _ => rfl))) (snd_one (snd_ret (PE.vl snd_bl))) snd_nils))))))) (snd_one (snd_if (snd_not (snd_truth c (snd_e (PE.fz (snd_callN c (z.t__law_refused_right) (by show _ = _; rfl) (snd_cons (snd_var c (i := 2) rfl (by first | exact .inl rfl | exact .inr (.inl rfl) | exact .inr (.inr rfl))) (snd_cons (PE.fz (snd_ix c (snd_op c (i := 9) rfl (by first | exact .inl rfl | exact .inr (.inl rfl) | exact .inr (.inr rfl))) (snd_e snd_int))) snd_nil)) rfl))) (fun _ => rfl))) (snd_one (snd_ret (PE.vl snd_bl))) snd_nils))))) (snd_seq (snd_for c (snd_iter c (PE.fz (snd_tup (snd_cons (PE.fz (snd_tup (snd_cons snd_int (snd_cons snd_int snd_nil)))) (snd_cons (PE.fz (snd_tup (snd_cons (PE.fz (snd_neg (snd_e snd_int))) (snd_cons snd_int snd_nil)))) (snd_cons (PE.fz (snd_tup (snd_cons snd_int (snd_cons (PE.fz (snd_neg (snd_e snd_int))) snd_nil)))) (snd_cons (PE.fz (snd_tup (snd_cons (PE.fz (snd_neg (snd_e snd_int))) (snd_cons (PE.fz (snd_neg (snd_e snd_int))) snd_nil)))) (snd_cons (PE.fz (snd_tup (snd_cons snd_int (snd_cons snd_int snd_nil)))) (snd_cons (PE.fz (snd_tup (snd_cons snd_int (snd_cons (PE.fz (snd_neg (snd_e snd_int))) snd_nil)))) snd_nil))))))))) (snd_tgT c hN (.cons ⟨rfl, by first | exact .inl rfl | exact .inr rfl, by first | exact .inl rfl | exact .inr rfl⟩ (.cons ⟨rfl, by first | exact .inl rfl | exact .inr rfl, by first | exact .inl rfl | exact .inr rfl⟩ .nil)) rfl) (snd_seq (snd_set c hN ⟨rfl, by first | exact .inl rfl | exact .inr rfl, .inl rfl⟩ (snd_lst (snd_cons (PE.fz (snd_ifx (snd_cmpT (cmpOp_ok c.K c.un _) rfl (snd_op c (i := 4) rfl (by first | exact .inl rfl | exact .inr (.inl rfl) | exact .inr (.inr rfl))) (snd_e snd_int)) (snd_tup (snd_cons (snd_str (toStr_mk _).symm) (snd_cons (PE.fz (snd_abs c (by show _ = _; rfl) (z.hb _ (by decide)) (snd_op c (i := 4) rfl (by first | exact .inl rfl | exact .inr (.inl rfl) | exact .inr (.inr rfl))))) snd_nil))) (snd_tup (snd_cons (snd_str (toStr_mk _).symm) (snd_cons (PE.fz (snd_tup (snd_cons (snd_str (toStr_mk _).symm) (snd_cons (PE.fz (snd_bin (binOp_ok c.K (h := h_bin .Sub) rfl) (snd_e snd_int) (snd_op c (i := 4) rfl (by first | exact .inl rfl | exact .inr (.inl rfl) | exact .inr (.inr rfl))))) snd_nil)))) snd_nil))))) (snd_cons (PE.fz (snd_tup (snd_cons (snd_str (toStr_mk _).symm) (snd_cons (snd_str (toStr_mk _).symm) snd_nil)))) snd_nil)))) (snd_one (snd_for c (snd_iter c (PE.fz (snd_tup (snd_cons (snd_str (toStr_mk _).symm) (snd_cons (snd_str (toStr_mk _).symm) snd_nil))))) (snd_tgN c hN ⟨rfl, by first | exact .inl rfl | exact .inr rfl, by first | exact .inl rfl | exact .inr rfl⟩) (snd_seq (snd_set c hN ⟨rfl, by first | exact .inl rfl | exact .inr rfl, .inl rfl⟩ (snd_callN c (z.t__law_parted) (by show _ = _; rfl) (snd_cons (snd_var c (i := 7) rfl (by first | exact .inl rfl | exact .inr (.inl rfl) | exact .inr (.inr rfl))) (snd_cons (snd_var c (i := 4) rfl (by first | exact .inl rfl | exact .inr (.inl rfl) | exact .inr (.inr rfl))) (snd_cons (snd_var c (i := 5) rfl (by first | exact .inl rfl | exact .inr (.inl rfl) | exact .inr (.inr rfl))) snd_nil))) rfl)) (snd_one (snd_if (snd_not (snd_truth c (snd_e (PE.fz (snd_callN c (z.t__law_same) (by show _ = _; rfl) (snd_cons (PE.fz (snd_callN c (z.t_sum_value) (by show _ = _; rfl) (snd_cons (PE.fz (snd_tup (snd_cons (snd_var c (i := 7) rfl (by first | exact .inl rfl | exact .inr (.inl rfl) | exact .inr (.inr rfl))) (snd_cons (PE.fz (snd_ix c (snd_op c (i := 6) rfl (by first | exact .inl rfl | exact .inr (.inl rfl) | exact .inr (.inr rfl))) (snd_e snd_int))) (snd_cons (PE.fz (snd_ix c (snd_op c (i := 6) rfl (by first | exact .inl rfl | exact .inr (.inl rfl) | exact .inr (.inr rfl))) (snd_e snd_int))) snd_nil))))) (snd_cons (PE.fz (snd_dct (.cons (snd_str (toStr_mk _).symm) (PE.fz (snd_tostr c (by show _ = _; rfl) (z.hb _ (by decide)) (snd_op c (i := 5) rfl (by first | exact .inl rfl | exact .inr (.inl rfl) | exact .inr (.inr rfl))))) .nil) rfl rfl (by simp) (by decide))) snd_nil)) rfl)) (snd_cons (snd_var c (i := 11) rfl (by first | exact .inl rfl | exact .inr (.inl rfl) | exact .inr (.inr rfl))) snd_nil)) rfl))) (fun _ => rfl))) (snd_one (snd_ret (PE.vl snd_bl))) snd_nils))))))) (snd_one (snd_ret (snd_callN c (z.t__law_same) (by show _ = _; rfl) (snd_cons (PE.fz (snd_callN c (z.t_sum_value) (by show _ = _; rfl) (snd_cons (PE.fz (snd_tup (snd_cons (snd_str (toStr_mk _).symm) (snd_cons (PE.fz (snd_tup (snd_cons (snd_str (toStr_mk _).symm) (snd_cons (snd_str (toStr_mk _).symm) snd_nil)))) (snd_cons (PE.fz (snd_tup (snd_cons (snd_str (toStr_mk _).symm) (snd_cons snd_int snd_nil)))) snd_nil))))) (snd_cons (PE.fz (snd_dct (.cons (snd_str (toStr_mk _).symm) (snd_str (toStr_mk _).symm) .nil) rfl rfl (by simp) (by decide))) snd_nil)) rfl)) (snd_cons (PE.fz (snd_tup (snd_cons (snd_str (toStr_mk _).symm) (snd_cons (PE.fz (snd_tup (snd_cons (snd_str (toStr_mk _).symm) (snd_cons (snd_str (toStr_mk _).symm) snd_nil)))) snd_nil)))) snd_nil)) rfl)))))
end Gx
set_option Elab.async false
set_option linter.all false
set_option maxRecDepth 100000
set_option maxHeartbeats 4000000
namespace Gx
open PySem PySem.Spec PyProof.Rows L2 Mi

def d_is_integer : DR := ⟨"is_integer", top 4, false, ["thing"], N_is_integer, m_is_integer⟩
def d_is_list : DR := ⟨"is_list", top 5, false, ["thing"], N_is_list, m_is_list⟩
def d_is_name : DR := ⟨"is_name", top 6, false, ["thing"], N_is_name, m_is_name⟩
def d_is_sign : DR := ⟨"is_sign", top 13, false, ["sign"], N_is_sign, m_is_sign⟩
def d_is_text : DR := ⟨"is_text", top 14, false, ["thing"], N_is_text, m_is_text⟩
def d_is_sum : DR := ⟨"is_sum", top 15, false, ["thing"], N_is_sum, m_is_sum⟩
def d_are_values : DR := ⟨"are_values", top 17, false, ["thing"], N_are_values, m_are_values⟩
def d_number_in : DR := ⟨"number_in", top 18, false, ["text"], N_number_in, m_number_in⟩
def d_quotient : DR := ⟨"quotient", top 19, false, ["one", "other"], N_quotient, m_quotient⟩
def d_joined : DR := ⟨"joined", top 20, false, ["sign", "one", "other"], N_joined, m_joined⟩
def d_value_of_sum : DR := ⟨"value_of_sum", top 21, false, ["total", "held"], N_value_of_sum, m_value_of_sum⟩
def d_sum_value : DR := ⟨"sum_value", top 22, false, ["total", "held"], N_sum_value, m_sum_value⟩
def d__law_stream : DR := ⟨"_law_stream", top 24, false, ["_law_script", "_law_k"], N__law_stream, m__law_stream⟩
def d__law_draw : DR := ⟨"_law_draw", top 25, false, ["_law_stream_here", "_law_many"], N__law_draw, m__law_draw⟩
def d__law_pick : DR := ⟨"_law_pick", top 26, false, ["_law_stream_here", "_law_some"], N__law_pick, m__law_pick⟩
def d__law_mixed : DR := ⟨"_law_mixed", top 27, false, ["_law_stream_here", "_law_some"], N__law_mixed, m__law_mixed⟩
def d__law_loose : DR := ⟨"_law_loose", top 28, false, ["_law_stream_here", "_law_thing"], N__law_loose, m__law_loose⟩
def d__law_same : DR := ⟨"_law_same", top 29, false, ["_law_found", "_law_wanted"], N__law_same, m__law_same⟩
def d__law_met : DR := ⟨"_law_met", top 30, false, ["_law_ask"], N__law_met, sBad⟩
def d__law_sum : DR := ⟨"_law_sum", top 31, false, ["_law_stream_here", "_law_deep", "_law_most"], N__law_sum, m__law_sum⟩
def d__law_held : DR := ⟨"_law_held", top 32, false, ["_law_stream_here", "_law_most"], N__law_held, m__law_held⟩
def d__law_number : DR := ⟨"_law_number", top 33, false, ["_law_text"], N__law_number, m__law_number⟩
def d__law_worth : DR := ⟨"_law_worth", top 34, false, ["_law_total", "_law_held_here"], N__law_worth, m__law_worth⟩
def d__law_parted : DR := ⟨"_law_parted", top 35, false, ["_law_word", "_law_one", "_law_other"], N__law_parted, m__law_parted⟩
def d__law_one_right : DR := ⟨"_law_one_right", top 36, false, ["_law_stream_here", "_law_total", "_law_held_here"], N__law_one_right, m__law_one_right⟩
def d__law_refused_right : DR := ⟨"_law_refused_right", top 37, true, ["_law_stream_here", "_law_total"], N__law_refused_right, m__law_refused_right⟩
def d_law : DR := ⟨"law", top 38, false, ["_law_script"], N_law, m_law⟩
def e_BadSum : ExI := ⟨"BadSum", "BadSum.__init__", iniOf (top 9), "self", ["total"]⟩
def e_BadValues : ExI := ⟨"BadValues", "BadValues.__init__", iniOf (top 10), "self", ["held"]⟩
def DD : HD := ⟨["abs", "all", "bool", "dict", "enumerate", "int", "isinstance", "len", "list", "range", "repr", "str", "sum", "super", "tuple", "zip"], [d_is_integer, d_is_list, d_is_name, d_is_sign, d_is_text, d_is_sum, d_are_values, d_number_in, d_quotient, d_joined, d_value_of_sum, d_sum_value, d__law_stream, d__law_draw, d__law_pick, d__law_mixed, d__law_loose, d__law_same, d__law_met, d__law_sum, d__law_held, d__law_number, d__law_worth, d__law_parted, d__law_one_right, d__law_refused_right, d_law], [e_BadSum, e_BadValues], [("FIRST", "abcdefghijklmnopqrstuvwxyz"), ("LATER", "abcdefghijklmnopqrstuvwxyz0123456789"), ("SIGNS", " !\"#$&'()*+,-./0123456789:;<=>?@ABCDEFGHIJKLMNOPQRSTUVWXYZ[\\]^_`abcdefghijklmnopqrstuvwxyz{|}~")], [("SIGNS_OF_TWO", ["+", "-", "*", "/", "~", "<", "<=", "="])], "/claim/cut.py"⟩
abbrev bd : Nat → Option (Nat × MS) := bdM DD
theorem bd_is_integer : bd 0 = some (1, m_is_integer) := rfl
theorem w_is_integer {m : Nat} {lam : Store → CR} {S : Store} {Q : D → Bool → Store → Prop} {E : Nat → List (Tx × D) → Store → Prop} {a0 : Sl} (h : SW (m_is_integer ⟨callM bd m, lam, m, loM bd m⟩ [a0] S) (fun _ S => Q .non false S) (fun d b _ S => Q d b S) (fun _ _ => False) (fun _ _ => False) fun c fs _ S => E c fs S) : CW (callM bd (m + 1) 0 [a0] lam S) Q E := w_def rfl bd_is_integer h
theorem bd_is_list : bd 1 = some (1, m_is_list) := rfl
theorem w_is_list {m : Nat} {lam : Store → CR} {S : Store} {Q : D → Bool → Store → Prop} {E : Nat → List (Tx × D) → Store → Prop} {a0 : Sl} (h : SW (m_is_list ⟨callM bd m, lam, m, loM bd m⟩ [a0] S) (fun _ S => Q .non false S) (fun d b _ S => Q d b S) (fun _ _ => False) (fun _ _ => False) fun c fs _ S => E c fs S) : CW (callM bd (m + 1) 1 [a0] lam S) Q E := w_def rfl bd_is_list h
theorem bd_is_name : bd 2 = some (2, m_is_name) := rfl
theorem w_is_name {m : Nat} {lam : Store → CR} {S : Store} {Q : D → Bool → Store → Prop} {E : Nat → List (Tx × D) → Store → Prop} {a0 : Sl} (h : SW (m_is_name ⟨callM bd m, lam, m, loM bd m⟩ [a0, .un] S) (fun _ S => Q .non false S) (fun d b _ S => Q d b S) (fun _ _ => False) (fun _ _ => False) fun c fs _ S => E c fs S) : CW (callM bd (m + 1) 2 [a0] lam S) Q E := w_def rfl bd_is_name h
theorem bd_is_sign : bd 3 = some (1, m_is_sign) := rfl
theorem w_is_sign {m : Nat} {lam : Store → CR} {S : Store} {Q : D → Bool → Store → Prop} {E : Nat → List (Tx × D) → Store → Prop} {a0 : Sl} (h : SW (m_is_sign ⟨callM bd m, lam, m, loM bd m⟩ [a0] S) (fun _ S => Q .non false S) (fun d b _ S => Q d b S) (fun _ _ => False) (fun _ _ => False) fun c fs _ S => E c fs S) : CW (callM bd (m + 1) 3 [a0] lam S) Q E := w_def rfl bd_is_sign h
theorem bd_is_text : bd 4 = some (2, m_is_text) := rfl
theorem w_is_text {m : Nat} {lam : Store → CR} {S : Store} {Q : D → Bool → Store → Prop} {E : Nat → List (Tx × D) → Store → Prop} {a0 : Sl} (h : SW (m_is_text ⟨callM bd m, lam, m, loM bd m⟩ [a0, .un] S) (fun _ S => Q .non false S) (fun d b _ S => Q d b S) (fun _ _ => False) (fun _ _ => False) fun c fs _ S => E c fs S) : CW (callM bd (m + 1) 4 [a0] lam S) Q E := w_def rfl bd_is_text h
theorem bd_is_sum : bd 5 = some (1, m_is_sum) := rfl
theorem w_is_sum {m : Nat} {lam : Store → CR} {S : Store} {Q : D → Bool → Store → Prop} {E : Nat → List (Tx × D) → Store → Prop} {a0 : Sl} (h : SW (m_is_sum ⟨callM bd m, lam, m, loM bd m⟩ [a0] S) (fun _ S => Q .non false S) (fun d b _ S => Q d b S) (fun _ _ => False) (fun _ _ => False) fun c fs _ S => E c fs S) : CW (callM bd (m + 1) 5 [a0] lam S) Q E := w_def rfl bd_is_sum h
theorem bd_are_values : bd 6 = some (3, m_are_values) := rfl
theorem w_are_values {m : Nat} {lam : Store → CR} {S : Store} {Q : D → Bool → Store → Prop} {E : Nat → List (Tx × D) → Store → Prop} {a0 : Sl} (h : SW (m_are_values ⟨callM bd m, lam, m, loM bd m⟩ [a0, .un, .un] S) (fun _ S => Q .non false S) (fun d b _ S => Q d b S) (fun _ _ => False) (fun _ _ => False) fun c fs _ S => E c fs S) : CW (callM bd (m + 1) 6 [a0] lam S) Q E := w_def rfl bd_are_values h
theorem bd_number_in : bd 7 = some (3, m_number_in) := rfl
theorem w_number_in {m : Nat} {lam : Store → CR} {S : Store} {Q : D → Bool → Store → Prop} {E : Nat → List (Tx × D) → Store → Prop} {a0 : Sl} (h : SW (m_number_in ⟨callM bd m, lam, m, loM bd m⟩ [a0, .un, .un] S) (fun _ S => Q .non false S) (fun d b _ S => Q d b S) (fun _ _ => False) (fun _ _ => False) fun c fs _ S => E c fs S) : CW (callM bd (m + 1) 7 [a0] lam S) Q E := w_def rfl bd_number_in h
theorem bd_quotient : bd 8 = some (3, m_quotient) := rfl
theorem w_quotient {m : Nat} {lam : Store → CR} {S : Store} {Q : D → Bool → Store → Prop} {E : Nat → List (Tx × D) → Store → Prop} {a0 a1 : Sl} (h : SW (m_quotient ⟨callM bd m, lam, m, loM bd m⟩ [a0, a1, .un] S) (fun _ S => Q .non false S) (fun d b _ S => Q d b S) (fun _ _ => False) (fun _ _ => False) fun c fs _ S => E c fs S) : CW (callM bd (m + 1) 8 [a0, a1] lam S) Q E := w_def rfl bd_quotient h
theorem bd_joined : bd 9 = some (3, m_joined) := rfl
theorem w_joined {m : Nat} {lam : Store → CR} {S : Store} {Q : D → Bool → Store → Prop} {E : Nat → List (Tx × D) → Store → Prop} {a0 a1 a2 : Sl} (h : SW (m_joined ⟨callM bd m, lam, m, loM bd m⟩ [a0, a1, a2] S) (fun _ S => Q .non false S) (fun d b _ S => Q d b S) (fun _ _ => False) (fun _ _ => False) fun c fs _ S => E c fs S) : CW (callM bd (m + 1) 9 [a0, a1, a2] lam S) Q E := w_def rfl bd_joined h
theorem bd_value_of_sum : bd 10 = some (5, m_value_of_sum) := rfl
theorem w_value_of_sum {m : Nat} {lam : Store → CR} {S : Store} {Q : D → Bool → Store → Prop} {E : Nat → List (Tx × D) → Store → Prop} {a0 a1 : Sl} (h : SW (m_value_of_sum ⟨callM bd m, lam, m, loM bd m⟩ [a0, a1, .un, .un, .un] S) (fun _ S => Q .non false S) (fun d b _ S => Q d b S) (fun _ _ => False) (fun _ _ => False) fun c fs _ S => E c fs S) : CW (callM bd (m + 1) 10 [a0, a1] lam S) Q E := w_def rfl bd_value_of_sum h
theorem bd_sum_value : bd 11 = some (2, m_sum_value) := rfl
theorem w_sum_value {m : Nat} {lam : Store → CR} {S : Store} {Q : D → Bool → Store → Prop} {E : Nat → List (Tx × D) → Store → Prop} {a0 a1 : Sl} (h : SW (m_sum_value ⟨callM bd m, lam, m, loM bd m⟩ [a0, a1] S) (fun _ S => Q .non false S) (fun d b _ S => Q d b S) (fun _ _ => False) (fun _ _ => False) fun c fs _ S => E c fs S) : CW (callM bd (m + 1) 11 [a0, a1] lam S) Q E := w_def rfl bd_sum_value h
theorem bd__law_stream : bd 12 = some (6, m__law_stream) := rfl
theorem w__law_stream {m : Nat} {lam : Store → CR} {S : Store} {Q : D → Bool → Store → Prop} {E : Nat → List (Tx × D) → Store → Prop} {a0 a1 : Sl} (h : SW (m__law_stream ⟨callM bd m, lam, m, loM bd m⟩ [a0, a1, .un, .un, .un, .un] S) (fun _ S => Q .non false S) (fun d b _ S => Q d b S) (fun _ _ => False) (fun _ _ => False) fun c fs _ S => E c fs S) : CW (callM bd (m + 1) 12 [a0, a1] lam S) Q E := w_def rfl bd__law_stream h
theorem bd__law_draw : bd 13 = some (4, m__law_draw) := rfl
theorem w__law_draw {m : Nat} {lam : Store → CR} {S : Store} {Q : D → Bool → Store → Prop} {E : Nat → List (Tx × D) → Store → Prop} {a0 a1 : Sl} (h : SW (m__law_draw ⟨callM bd m, lam, m, loM bd m⟩ [a0, a1, .un, .un] S) (fun _ S => Q .non false S) (fun d b _ S => Q d b S) (fun _ _ => False) (fun _ _ => False) fun c fs _ S => E c fs S) : CW (callM bd (m + 1) 13 [a0, a1] lam S) Q E := w_def rfl bd__law_draw h
theorem bd__law_pick : bd 14 = some (2, m__law_pick) := rfl
theorem w__law_pick {m : Nat} {lam : Store → CR} {S : Store} {Q : D → Bool → Store → Prop} {E : Nat → List (Tx × D) → Store → Prop} {a0 a1 : Sl} (h : SW (m__law_pick ⟨callM bd m, lam, m, loM bd m⟩ [a0, a1] S) (fun _ S => Q .non false S) (fun d b _ S => Q d b S) (fun _ _ => False) (fun _ _ => False) fun c fs _ S => E c fs S) : CW (callM bd (m + 1) 14 [a0, a1] lam S) Q E := w_def rfl bd__law_pick h
theorem bd__law_mixed : bd 15 = some (4, m__law_mixed) := rfl
theorem w__law_mixed {m : Nat} {lam : Store → CR} {S : Store} {Q : D → Bool → Store → Prop} {E : Nat → List (Tx × D) → Store → Prop} {a0 a1 : Sl} (h : SW (m__law_mixed ⟨callM bd m, lam, m, loM bd m⟩ [a0, a1, .un, .un] S) (fun _ S => Q .non false S) (fun d b _ S => Q d b S) (fun _ _ => False) (fun _ _ => False) fun c fs _ S => E c fs S) : CW (callM bd (m + 1) 15 [a0, a1] lam S) Q E := w_def rfl bd__law_mixed h
theorem bd__law_loose : bd 16 = some (4, m__law_loose) := rfl
theorem w__law_loose {m : Nat} {lam : Store → CR} {S : Store} {Q : D → Bool → Store → Prop} {E : Nat → List (Tx × D) → Store → Prop} {a0 a1 : Sl} (h : SW (m__law_loose ⟨callM bd m, lam, m, loM bd m⟩ [a0, a1, .un, .un] S) (fun _ S => Q .non false S) (fun d b _ S => Q d b S) (fun _ _ => False) (fun _ _ => False) fun c fs _ S => E c fs S) : CW (callM bd (m + 1) 16 [a0, a1] lam S) Q E := w_def rfl bd__law_loose h
theorem bd__law_same : bd 17 = some (4, m__law_same) := rfl
theorem w__law_same {m : Nat} {lam : Store → CR} {S : Store} {Q : D → Bool → Store → Prop} {E : Nat → List (Tx × D) → Store → Prop} {a0 a1 : Sl} (h : SW (m__law_same ⟨callM bd m, lam, m, loM bd m⟩ [a0, a1, .un, .un] S) (fun _ S => Q .non false S) (fun d b _ S => Q d b S) (fun _ _ => False) (fun _ _ => False) fun c fs _ S => E c fs S) : CW (callM bd (m + 1) 17 [a0, a1] lam S) Q E := w_def rfl bd__law_same h
theorem bd__law_met : bd 18 = some (2, sBad) := rfl
theorem w__law_met {m : Nat} {lam : Store → CR} {S : Store} {Q : D → Bool → Store → Prop} {E : Nat → List (Tx × D) → Store → Prop} {a0 : Sl} (h : SW (sBad ⟨callM bd m, lam, m, loM bd m⟩ [a0, .un] S) (fun _ S => Q .non false S) (fun d b _ S => Q d b S) (fun _ _ => False) (fun _ _ => False) fun c fs _ S => E c fs S) : CW (callM bd (m + 1) 18 [a0] lam S) Q E := w_def rfl bd__law_met h
theorem bd__law_sum : bd 19 = some (7, m__law_sum) := rfl
theorem w__law_sum {m : Nat} {lam : Store → CR} {S : Store} {Q : D → Bool → Store → Prop} {E : Nat → List (Tx × D) → Store → Prop} {a0 a1 a2 : Sl} (h : SW (m__law_sum ⟨callM bd m, lam, m, loM bd m⟩ [a0, a1, a2, .un, .un, .un, .un] S) (fun _ S => Q .non false S) (fun d b _ S => Q d b S) (fun _ _ => False) (fun _ _ => False) fun c fs _ S => E c fs S) : CW (callM bd (m + 1) 19 [a0, a1, a2] lam S) Q E := w_def rfl bd__law_sum h
theorem bd__law_held : bd 20 = some (7, m__law_held) := rfl
theorem w__law_held {m : Nat} {lam : Store → CR} {S : Store} {Q : D → Bool → Store → Prop} {E : Nat → List (Tx × D) → Store → Prop} {a0 a1 : Sl} (h : SW (m__law_held ⟨callM bd m, lam, m, loM bd m⟩ [a0, a1, .un, .un, .un, .un, .un] S) (fun _ S => Q .non false S) (fun d b _ S => Q d b S) (fun _ _ => False) (fun _ _ => False) fun c fs _ S => E c fs S) : CW (callM bd (m + 1) 20 [a0, a1] lam S) Q E := w_def rfl bd__law_held h
theorem bd__law_number : bd 21 = some (4, m__law_number) := rfl
theorem w__law_number {m : Nat} {lam : Store → CR} {S : Store} {Q : D → Bool → Store → Prop} {E : Nat → List (Tx × D) → Store → Prop} {a0 : Sl} (h : SW (m__law_number ⟨callM bd m, lam, m, loM bd m⟩ [a0, .un, .un, .un] S) (fun _ S => Q .non false S) (fun d b _ S => Q d b S) (fun _ _ => False) (fun _ _ => False) fun c fs _ S => E c fs S) : CW (callM bd (m + 1) 21 [a0] lam S) Q E := w_def rfl bd__law_number h
theorem bd__law_worth : bd 22 = some (9, m__law_worth) := rfl
theorem w__law_worth {m : Nat} {lam : Store → CR} {S : Store} {Q : D → Bool → Store → Prop} {E : Nat → List (Tx × D) → Store → Prop} {a0 a1 : Sl} (h : SW (m__law_worth ⟨callM bd m, lam, m, loM bd m⟩ [a0, a1, .un, .un, .un, .un, .un, .un, .un] S) (fun _ S => Q .non false S) (fun d b _ S => Q d b S) (fun _ _ => False) (fun _ _ => False) fun c fs _ S => E c fs S) : CW (callM bd (m + 1) 22 [a0, a1] lam S) Q E := w_def rfl bd__law_worth h
theorem bd__law_parted : bd 23 = some (4, m__law_parted) := rfl
theorem w__law_parted {m : Nat} {lam : Store → CR} {S : Store} {Q : D → Bool → Store → Prop} {E : Nat → List (Tx × D) → Store → Prop} {a0 a1 a2 : Sl} (h : SW (m__law_parted ⟨callM bd m, lam, m, loM bd m⟩ [a0, a1, a2, .un] S) (fun _ S => Q .non false S) (fun d b _ S => Q d b S) (fun _ _ => False) (fun _ _ => False) fun c fs _ S => E c fs S) : CW (callM bd (m + 1) 23 [a0, a1, a2] lam S) Q E := w_def rfl bd__law_parted h
theorem bd__law_one_right : bd 24 = some (6, m__law_one_right) := rfl
theorem w__law_one_right {m : Nat} {lam : Store → CR} {S : Store} {Q : D → Bool → Store → Prop} {E : Nat → List (Tx × D) → Store → Prop} {a0 a1 a2 : Sl} (h : SW (m__law_one_right ⟨callM bd m, lam, m, loM bd m⟩ [a0, a1, a2, .un, .un, .un] S) (fun _ S => Q .non false S) (fun d b _ S => Q d b S) (fun _ _ => False) (fun _ _ => False) fun c fs _ S => E c fs S) : CW (callM bd (m + 1) 24 [a0, a1, a2] lam S) Q E := w_def rfl bd__law_one_right h
theorem bd__law_refused_right : bd 25 = some (5, m__law_refused_right) := rfl
theorem w__law_refused_right {m : Nat} {lam : Store → CR} {S : Store} {Q : D → Bool → Store → Prop} {E : Nat → List (Tx × D) → Store → Prop} {a0 a1 : Sl} (h : SW (m__law_refused_right ⟨callM bd m, lam, m, loM bd m⟩ [a0, a1, .un, .un, .un] S) (fun _ S => Q .non false S) (fun d b _ S => Q d b S) (fun _ _ => False) (fun _ _ => False) fun c fs _ S => E c fs S) : CW (callM bd (m + 1) 25 [a0, a1] lam S) Q E := w_def rfl bd__law_refused_right h
theorem bd_law : bd 26 = some (13, m_law) := rfl
theorem w_law {m : Nat} {lam : Store → CR} {S : Store} {Q : D → Bool → Store → Prop} {E : Nat → List (Tx × D) → Store → Prop} {a0 : Sl} (h : SW (m_law ⟨callM bd m, lam, m, loM bd m⟩ [a0, .un, .un, .un, .un, .un, .un, .un, .un, .un, .un, .un, .un] S) (fun _ S => Q .non false S) (fun d b _ S => Q d b S) (fun _ _ => False) (fun _ _ => False) fun c fs _ S => E c fs S) : CW (callM bd (m + 1) 26 [a0] lam S) Q E := w_def rfl bd_law h
end Gx
set_option Elab.async false
set_option linter.all false
set_option maxRecDepth 100000
set_option maxHeartbeats 0
namespace Gx
open PySem PySem.Spec PyProof.Rows L2 Mi

def loose0 : List Str := ["FIRST", "LATER", "SIGNS", "is_integer", "is_list", "is_name", "PipeError", "BadSum", "BadValues", "SIGNS_OF_TWO", "is_sign", "is_text", "is_sum", "are_values", "number_in", "quotient", "joined", "value_of_sum", "sum_value", "_law_stream", "_law_draw", "_law_pick", "_law_mixed", "_law_loose", "_law_same", "_law_met", "_law_sum", "_law_held", "_law_number", "_law_worth"]
def loose1 : List Str := ["_law_parted", "_law_one_right"]
def loose : List Str := loose0 ++ loose1
abbrev R : PySem.W.OpenRow := PySem.W.OpenLaw.row PySem.Challenge.rw_everypipe_k08_whole_sums
abbrev qv : Program := PySem.W.view R.prog [37, 38]
abbrev hk : PySem.W.Hook := hookM 4 DD
def ob (s : PySem.W.SharedT) : AlM := obsG 4 DD (HandSHeadRun.getT s)
theorem ob_eq (s : PySem.W.SharedT) : ob s = hk.obs s.abs := obsG_eq (HandSHeadRun.getT_eq s)
theorem run (w : World) : HandSHeadRun.RunEq R qv hk ob 4000 loose w := by
  intro os
  kernel_rfl
end Gx
set_option Elab.async false
set_option linter.all false
set_option maxRecDepth 100000
set_option maxHeartbeats 1000000
namespace Gx
open PySem Mi
local macro_rules | `(tactic| walk_at "mi go") => `(tactic| (repeat (first | ((with_reducible refine' putI ?e ?_); (case e => ((try dsimp only [List.set_cons_zero, List.set_cons_succ, slOf_f, slOf_t, wipeF, backF, Tg.put, putAll, List.getElem?_cons_zero, List.getElem?_cons_succ, Option.getD_some]); (try rfl)))) | ((with_reducible refine' OW.some ?e ?_); (case e => rfl)) | with_reducible refine w_ope ?_ | with_reducible refine w_c ?_ | with_reducible refine w_fz ?_ | with_reducible refine w_all1 ?_ | ((with_reducible refine' w_ops ?e ?_); (case e => rfl)) | ((with_reducible refine' w_at2 ?e1 ?e2 ?_); (case e1 => rfl); (case e2 => rfl)) | with_reducible refine w_bin ?_ | ((with_reducible refine' w_at1 ?e ?_); (case e => rfl)) | with_reducible refine w_all0 ?_ | with_reducible refine s_seq ?_ | with_reducible refine w_un ?_ | with_reducible refine s_if ?_ | ((with_reducible refine lenI ?e ?_); (case e => exact Nat.le_of_ble_eq_true rfl)) | ((with_reducible refine ite_F ?e ?_); (case e => rfl)) | ((with_reducible refine' w_var ?e ?_); (case e => rfl)) | with_reducible refine s_nx ?_ | with_reducible refine w_tup ?_ | ((with_reducible refine ite_T ?e ?_); (case e => rfl)) | with_reducible refine s_ret ?_ | with_reducible refine w_call ?_ | with_reducible refine w_truth ?_ | ((with_reducible refine' setI ?e ?_); (case e => ((try dsimp only [List.set_cons_zero, List.set_cons_succ, slOf_f, slOf_t, wipeF, backF, Tg.put, putAll, List.getElem?_cons_zero, List.getElem?_cons_succ, Option.getD_some]); (try rfl)))) | with_reducible refine w_ife ?_ | with_reducible refine s_set ?_ | with_reducible refine w_vl ?_ | with_reducible refine w_lst ?_ | with_reducible refine w_iter ?_ | with_reducible refine w_andV ?_ | ((with_reducible refine' s_retV ?e ?_); (case e => rfl)) | with_reducible refine s_for ?_ | ((with_reducible refine' w_mut ?e ?eL ?_); (case e => rfl); (case eL => rfl)) | with_reducible refine s_drop ?_ | with_reducible refine w_cut ?_ | with_reducible refine w_part ?_ | with_reducible refine w_nopart ?_ | with_reducible refine w_mcomp ?_ | with_reducible refine w_pure ?_ | with_reducible refine w_not ?_ | ((with_reducible refine' w_varO ?e ?_); (case e => rfl)) | with_reducible refine w_dct ?_ | with_reducible refine w_pairs0 ?_ | ((with_reducible refine kvsI ?e ?_); (case e => exact Nat.le_of_ble_eq_true rfl)) | ((with_reducible refine' s_retO ?e ?_); (case e => rfl)) | with_reducible refine w_notV ?_ | with_reducible refine w_or ?_ | with_reducible refine w_zip ?_ | with_reducible refine w_get ?_ | ((with_reducible refine' w_isD ?e ?_); (case e => rfl)) | ((with_reducible refine peI ?e ?_); (case e => exact ⟨_, rfl⟩)) | with_reducible refine w_range1 ?_ | with_reducible refine w_pairs1 ?_ | with_reducible refine s_par ?_ | with_reducible refine s_while ?_ | with_reducible refine s_put ?_ | with_reducible refine s_tup ?_ | with_reducible refine s_raise ?_ | with_reducible refine s_try ?_ | with_reducible refine s_retN ?_ | with_reducible refine s_bk ?_ | with_reducible refine s_ct ?_ | with_reducible refine w_chain ?_ | with_reducible refine w_and ?_ | with_reducible refine w_bl ?_ | with_reducible refine w_orV ?_ | with_reducible refine w_lstS ?_ | with_reducible refine w_callK ?_ | with_reducible refine w_meth1 ?_ | with_reducible refine w_enum ?_ | with_reducible refine w_opt ?_ | with_reducible refine w_range2 ?_ | with_reducible refine s_forD ?_ | with_reducible refine w_compD ?_ | ((with_reducible refine' w_isT ?e ?k ?_); (case e => rfl); (case k => rfl)) | ((with_reducible refine' w_ex ?e ?e2 ?_); (case e => rfl); (case e2 => rfl)) | ((with_reducible refine ltI ?e ?_); (case e => exact Nat.le_of_ble_eq_true rfl)))))
local macro_rules | `(tactic| walk_at "mi w") => `(tactic| (repeat (first | ((with_reducible refine' putI ?e ?_); (case e => ((try dsimp only [List.set_cons_zero, List.set_cons_succ, slOf_f, slOf_t, wipeF, backF, Tg.put, putAll, List.getElem?_cons_zero, List.getElem?_cons_succ, Option.getD_some]); (try rfl)))) | ((with_reducible refine' OW.some ?e ?_); (case e => rfl)) | with_reducible refine w_ope ?_ | with_reducible refine w_c ?_ | with_reducible refine w_fz ?_ | with_reducible refine w_all1 ?_ | ((with_reducible refine' w_ops ?e ?_); (case e => rfl)) | ((with_reducible refine' w_at2 ?e1 ?e2 ?_); (case e1 => rfl); (case e2 => rfl)) | with_reducible refine w_bin ?_ | ((with_reducible refine' w_at1 ?e ?_); (case e => rfl)) | with_reducible refine w_all0 ?_ | with_reducible refine w_un ?_ | ((with_reducible refine lenI ?e ?_); (case e => exact Nat.le_of_ble_eq_true rfl)) | ((with_reducible refine ite_F ?e ?_); (case e => rfl)) | ((with_reducible refine' w_var ?e ?_); (case e => rfl)) | with_reducible refine w_tup ?_ | ((with_reducible refine ite_T ?e ?_); (case e => rfl)) | with_reducible refine w_call ?_ | with_reducible refine w_truth ?_ | ((with_reducible refine' setI ?e ?_); (case e => ((try dsimp only [List.set_cons_zero, List.set_cons_succ, slOf_f, slOf_t, wipeF, backF, Tg.put, putAll, List.getElem?_cons_zero, List.getElem?_cons_succ, Option.getD_some]); (try rfl)))) | with_reducible refine w_ife ?_ | with_reducible refine w_vl ?_ | with_reducible refine w_lst ?_ | with_reducible refine w_iter ?_ | with_reducible refine w_andV ?_ | ((with_reducible refine' w_mut ?e ?eL ?_); (case e => rfl); (case eL => rfl)) | with_reducible refine w_cut ?_ | with_reducible refine w_part ?_ | with_reducible refine w_nopart ?_ | with_reducible refine w_mcomp ?_ | with_reducible refine w_pure ?_ | with_reducible refine w_not ?_ | ((with_reducible refine' w_varO ?e ?_); (case e => rfl)) | with_reducible refine w_dct ?_ | with_reducible refine w_pairs0 ?_ | ((with_reducible refine kvsI ?e ?_); (case e => exact Nat.le_of_ble_eq_true rfl)) | with_reducible refine w_notV ?_ | with_reducible refine w_or ?_ | with_reducible refine w_zip ?_ | with_reducible refine w_get ?_ | ((with_reducible refine' w_isD ?e ?_); (case e => rfl)) | ((with_reducible refine peI ?e ?_); (case e => exact ⟨_, rfl⟩)) | with_reducible refine w_range1 ?_ | with_reducible refine w_pairs1 ?_ | with_reducible refine w_chain ?_ | with_reducible refine w_and ?_ | with_reducible refine w_bl ?_ | with_reducible refine w_orV ?_ | with_reducible refine w_lstS ?_ | with_reducible refine w_callK ?_ | with_reducible refine w_meth1 ?_ | with_reducible refine w_enum ?_ | with_reducible refine w_opt ?_ | with_reducible refine w_range2 ?_ | with_reducible refine w_compD ?_ | ((with_reducible refine' w_isT ?e ?k ?_); (case e => rfl); (case k => rfl)) | ((with_reducible refine' w_ex ?e ?e2 ?_); (case e => rfl); (case e2 => rfl)) | ((with_reducible refine ltI ?e ?_); (case e => exact Nat.le_of_ble_eq_true rfl)))))
section
variable {n : Nat} {lam : Store → CR} {S : Store} {Q : D → Bool → Store → Prop} {E : Nat → List (Tx × D) → Store → Prop}
theorem pIx_refL {i : Nat} {ds : List D} {j : D} (e : S[i]? = some (.lst ds)) : pIx S (.ref i) j = pIx S (.lst ds) j := by
  have e1 : dctOf S (.ref i) = none := by unfold dctOf; dsimp only; rw [e]
  have e2 : seqOf S (.ref i) = some ds := by unfold seqOf; dsimp only; rw [e]
  show (match dctOf S (.ref i) with
    | some kvs => (match asKy j with
      | some k => (valK kvs k).map fun d => (d, false)
      | none => none)
    | none => (match seqOf S (.ref i) with
      | some ds => (match j with
        | .int i => (atI ds i).map fun d => (d, false)
        | _ => none)
      | none => none)) = _
  rw [e1, e2]
  rfl
theorem obj_refL {i : Nat} {o : SO} {f : Fr} {k : Nat} (h : f[k]? = some (.val (.ref i))) (e : S[i]? = some o) : obj f S k = some o := by
  unfold obj
  rw [h]
  exact e
theorem upF_ref {i : Nat} {o : SO} {f : Fr} {k : Nat} (h : f[k]? = some (.val (.ref i))) : upF f k o = f := by unfold upF; rw [h]
theorem upS_ref {i : Nat} {o : SO} {f : Fr} {k : Nat} (h : f[k]? = some (.val (.ref i))) : upS f S k o = S.set i o := by unfold upS; rw [h]
theorem p_draw {i k : Nat} {w : Int} (hn : 1 ≤ n) (hk : k < 2 ^ 40) (sv : Stm k i S) (hm : 0 < w) (hm2 : w < 1073741824) (h : ∀ r S', 0 ≤ r → r < w → Aft (k + 1) i S S' → Q (.int r) false S') : CW (callM bd n 13 [.val (.ref i),   .val (.int w)] lam S) Q E := by
  obtain ⟨a, b, c, e, v⟩ := sv
  obtain ⟨v1, v2, v3, v4, v5⟩ := v
  have hlt := (List.getElem?_eq_some_iff.mp e).1
  obtain ⟨m, rfl⟩ : ∃ m, n = m + 1 := ⟨n - 1, by omega⟩; refine w__law_draw ?_; unfold m__law_draw
  walk_at "mi go"
  refine OW.some (pIx_refL e) ?_
  walk_at "mi go"
  refine ite_i (fun hc => ?_) (fun hc => ?_)
  · have hc := of_decide_eq_true hc
    walk_at "mi go"
    refine OW.some (pIx_refL e) ?_
    walk_at "mi go"
    refine OW.some (if_pos hm) ?_
    walk_at "mi go"
    refine OW.some (pIx_refL e) ?_
    walk_at "mi go"
    refine OW.some (if_pos (show okDiv w = true by unfold okDiv; rw [decide_eq_true hm, decide_eq_true hm2]; rfl)) ?_
    walk_at "mi go"
    refine OW.some (obj_refL rfl e) ?_
    walk_at "mi go"
    exact h _ _ (Int.emod_nonneg _ (by omega)) (Int.emod_lt_of_pos _ hm) ⟨a / w, b, c, rfl, Int.ediv_nonneg (by omega) (by omega), v2, v3, v4, by omega⟩
  · walk_at "mi go"
    refine OW.some (pIx_refL e) ?_
    walk_at "mi go"
    refine OW.some (obj_refL rfl e) ?_
    walk_at "mi go"
    have e' : (S.set i (.lst [.int a, .int b, .int (c + 1)]))[i]? = some (.lst [.int a, .int b, .int (c + 1)]) := List.getElem?_set_self hlt
    refine OW.some (pIx_refL e') ?_
    walk_at "mi go"
    refine OW.some (pIx_refL e') ?_
    walk_at "mi go"
    refine OW.some (if_pos (by rw [decide_eq_true (show (0 : Int) ≤ 5 by decide), decide_eq_true (show (5 : Int) ≤ 1000000 by decide), decide_eq_true (show (b + 7919 * (c + 1) + 104729).natAbs < 2 ^ 64 by omega)]; rfl)) ?_
    walk_at "mi go"
    refine OW.some (pIx_refL e') ?_
    walk_at "mi go"
    refine OW.some (if_pos (okMul_r (by decide))) ?_
    walk_at "mi go"
    refine OW.some (if_pos hm) ?_
    walk_at "mi go"
    exact h _ _ (Int.emod_nonneg _ (by omega)) (Int.emod_lt_of_pos _ hm) ⟨a, b, c + 1, rfl, v1, v2, v3, by omega, by omega⟩

end
end Gx
set_option Elab.async false
set_option linter.all false
set_option maxRecDepth 100000
set_option maxHeartbeats 1000000
namespace Gx
open PySem Mi
local macro_rules | `(tactic| walk_at "mi go") => `(tactic| (repeat (first | ((with_reducible refine' putI ?e ?_); (case e => ((try dsimp only [List.set_cons_zero, List.set_cons_succ, slOf_f, slOf_t, wipeF, backF, Tg.put, putAll, List.getElem?_cons_zero, List.getElem?_cons_succ, Option.getD_some]); (try rfl)))) | ((with_reducible refine' OW.some ?e ?_); (case e => rfl)) | with_reducible refine w_ope ?_ | with_reducible refine w_c ?_ | with_reducible refine w_fz ?_ | with_reducible refine w_all1 ?_ | ((with_reducible refine' w_ops ?e ?_); (case e => rfl)) | ((with_reducible refine' w_at2 ?e1 ?e2 ?_); (case e1 => rfl); (case e2 => rfl)) | with_reducible refine w_bin ?_ | ((with_reducible refine' w_at1 ?e ?_); (case e => rfl)) | with_reducible refine w_all0 ?_ | with_reducible refine s_seq ?_ | with_reducible refine w_un ?_ | with_reducible refine s_if ?_ | ((with_reducible refine lenI ?e ?_); (case e => exact Nat.le_of_ble_eq_true rfl)) | ((with_reducible refine ite_F ?e ?_); (case e => rfl)) | ((with_reducible refine' w_var ?e ?_); (case e => rfl)) | with_reducible refine s_nx ?_ | with_reducible refine w_tup ?_ | ((with_reducible refine ite_T ?e ?_); (case e => rfl)) | with_reducible refine s_ret ?_ | with_reducible refine w_call ?_ | with_reducible refine w_truth ?_ | ((with_reducible refine' setI ?e ?_); (case e => ((try dsimp only [List.set_cons_zero, List.set_cons_succ, slOf_f, slOf_t, wipeF, backF, Tg.put, putAll, List.getElem?_cons_zero, List.getElem?_cons_succ, Option.getD_some]); (try rfl)))) | with_reducible refine w_ife ?_ | with_reducible refine s_set ?_ | with_reducible refine w_vl ?_ | with_reducible refine w_lst ?_ | with_reducible refine w_iter ?_ | with_reducible refine w_andV ?_ | ((with_reducible refine' s_retV ?e ?_); (case e => rfl)) | with_reducible refine s_for ?_ | ((with_reducible refine' w_mut ?e ?eL ?_); (case e => rfl); (case eL => rfl)) | with_reducible refine s_drop ?_ | with_reducible refine w_cut ?_ | with_reducible refine w_part ?_ | with_reducible refine w_nopart ?_ | with_reducible refine w_mcomp ?_ | with_reducible refine w_pure ?_ | with_reducible refine w_not ?_ | ((with_reducible refine' w_varO ?e ?_); (case e => rfl)) | with_reducible refine w_dct ?_ | with_reducible refine w_pairs0 ?_ | ((with_reducible refine kvsI ?e ?_); (case e => exact Nat.le_of_ble_eq_true rfl)) | ((with_reducible refine' s_retO ?e ?_); (case e => rfl)) | with_reducible refine w_notV ?_ | with_reducible refine w_or ?_ | with_reducible refine w_zip ?_ | with_reducible refine w_get ?_ | ((with_reducible refine' w_isD ?e ?_); (case e => rfl)) | ((with_reducible refine peI ?e ?_); (case e => exact ⟨_, rfl⟩)) | with_reducible refine w_range1 ?_ | with_reducible refine w_pairs1 ?_ | with_reducible refine s_par ?_ | with_reducible refine s_while ?_ | with_reducible refine s_put ?_ | with_reducible refine s_tup ?_ | with_reducible refine s_raise ?_ | with_reducible refine s_try ?_ | with_reducible refine s_retN ?_ | with_reducible refine s_bk ?_ | with_reducible refine s_ct ?_ | with_reducible refine w_chain ?_ | with_reducible refine w_and ?_ | with_reducible refine w_bl ?_ | with_reducible refine w_orV ?_ | with_reducible refine w_lstS ?_ | with_reducible refine w_callK ?_ | with_reducible refine w_meth1 ?_ | with_reducible refine w_enum ?_ | with_reducible refine w_opt ?_ | with_reducible refine w_range2 ?_ | with_reducible refine s_forD ?_ | with_reducible refine w_compD ?_ | ((with_reducible refine' w_isT ?e ?k ?_); (case e => rfl); (case k => rfl)) | ((with_reducible refine' w_ex ?e ?e2 ?_); (case e => rfl); (case e2 => rfl)) | ((with_reducible refine ltI ?e ?_); (case e => exact Nat.le_of_ble_eq_true rfl)))))
local macro_rules | `(tactic| walk_at "mi w") => `(tactic| (repeat (first | ((with_reducible refine' putI ?e ?_); (case e => ((try dsimp only [List.set_cons_zero, List.set_cons_succ, slOf_f, slOf_t, wipeF, backF, Tg.put, putAll, List.getElem?_cons_zero, List.getElem?_cons_succ, Option.getD_some]); (try rfl)))) | ((with_reducible refine' OW.some ?e ?_); (case e => rfl)) | with_reducible refine w_ope ?_ | with_reducible refine w_c ?_ | with_reducible refine w_fz ?_ | with_reducible refine w_all1 ?_ | ((with_reducible refine' w_ops ?e ?_); (case e => rfl)) | ((with_reducible refine' w_at2 ?e1 ?e2 ?_); (case e1 => rfl); (case e2 => rfl)) | with_reducible refine w_bin ?_ | ((with_reducible refine' w_at1 ?e ?_); (case e => rfl)) | with_reducible refine w_all0 ?_ | with_reducible refine w_un ?_ | ((with_reducible refine lenI ?e ?_); (case e => exact Nat.le_of_ble_eq_true rfl)) | ((with_reducible refine ite_F ?e ?_); (case e => rfl)) | ((with_reducible refine' w_var ?e ?_); (case e => rfl)) | with_reducible refine w_tup ?_ | ((with_reducible refine ite_T ?e ?_); (case e => rfl)) | with_reducible refine w_call ?_ | with_reducible refine w_truth ?_ | ((with_reducible refine' setI ?e ?_); (case e => ((try dsimp only [List.set_cons_zero, List.set_cons_succ, slOf_f, slOf_t, wipeF, backF, Tg.put, putAll, List.getElem?_cons_zero, List.getElem?_cons_succ, Option.getD_some]); (try rfl)))) | with_reducible refine w_ife ?_ | with_reducible refine w_vl ?_ | with_reducible refine w_lst ?_ | with_reducible refine w_iter ?_ | with_reducible refine w_andV ?_ | ((with_reducible refine' w_mut ?e ?eL ?_); (case e => rfl); (case eL => rfl)) | with_reducible refine w_cut ?_ | with_reducible refine w_part ?_ | with_reducible refine w_nopart ?_ | with_reducible refine w_mcomp ?_ | with_reducible refine w_pure ?_ | with_reducible refine w_not ?_ | ((with_reducible refine' w_varO ?e ?_); (case e => rfl)) | with_reducible refine w_dct ?_ | with_reducible refine w_pairs0 ?_ | ((with_reducible refine kvsI ?e ?_); (case e => exact Nat.le_of_ble_eq_true rfl)) | with_reducible refine w_notV ?_ | with_reducible refine w_or ?_ | with_reducible refine w_zip ?_ | with_reducible refine w_get ?_ | ((with_reducible refine' w_isD ?e ?_); (case e => rfl)) | ((with_reducible refine peI ?e ?_); (case e => exact ⟨_, rfl⟩)) | with_reducible refine w_range1 ?_ | with_reducible refine w_pairs1 ?_ | with_reducible refine w_chain ?_ | with_reducible refine w_and ?_ | with_reducible refine w_bl ?_ | with_reducible refine w_orV ?_ | with_reducible refine w_lstS ?_ | with_reducible refine w_callK ?_ | with_reducible refine w_meth1 ?_ | with_reducible refine w_enum ?_ | with_reducible refine w_opt ?_ | with_reducible refine w_range2 ?_ | with_reducible refine w_compD ?_ | ((with_reducible refine' w_isT ?e ?k ?_); (case e => rfl); (case k => rfl)) | ((with_reducible refine' w_ex ?e ?e2 ?_); (case e => rfl); (case e2 => rfl)) | ((with_reducible refine ltI ?e ?_); (case e => exact Nat.le_of_ble_eq_true rfl)))))
section
variable {n : Nat} {lam : Store → CR} {S : Store} {Q : D → Bool → Store → Prop} {E : Nat → List (Tx × D) → Store → Prop}
theorem p_pick {i k : Nat} {ds : List D} (hn : 2 ≤ n) (hk : k < 2 ^ 40) (sv : Stm k i S) (h0 : ds ≠ []) (h1 : ds.length < 1073741824) (h : ∀ d ∈ ds, ∀ S', Aft (k + 1) i S S' → Q d false S') : CW (callM bd n 14 [.val (.ref i), .val (.lst ds)] lam S) Q E := by
  obtain ⟨m, rfl⟩ : ∃ m, n = m + 1 := ⟨n - 1, by omega⟩; refine w__law_pick ?_; unfold m__law_pick
  walk_at "mi go"
  have hp := List.length_pos_iff.mpr h0
  refine p_draw (by omega) hk sv (by omega) (by omega) fun r S' hr0 hr1 ha => ?_
  obtain ⟨x, hx, e, _⟩ := pIx_lst (S := S') hr0 hr1
  walk_at "mi go"
  refine OW.some e ?_
  exact h x hx S' ha
theorem p_mixed {i k : Nat} {ds : List D} (hn : 2 ≤ n) (hk : k + ds.length < 2 ^ 40) (sv : Stm k i S) (h1 : ds.length < 1000000) (hq : ∀ d ∈ ds, dQ d = true ∧ dDp d ≤ 60) (h : ∀ es b S', es.Perm ds → Aft (k + ds.length) i S S' → Q (.lst es) b S') : CW (callM bd n 15 [.val (.ref i), .val (.lst ds)] lam S) Q E := by
  obtain ⟨m, rfl⟩ : ∃ m, n = m + 1 := ⟨n - 1, by omega⟩; refine w__law_mixed ?_; unfold m__law_mixed
  walk_at "mi go"
  refine w_whil (m := ds.length) (fun w f S' => ∃ rest acc : List D, f = [.val (.ref i), .val (.lst ds), .own (.lst rest), .own (.lst acc)] ∧ w = rest.length ∧ (rest ++ acc).Perm ds ∧ Aft (k + acc.length) i S S') (by show _ < 1000000; omega) ⟨ds, [], rfl, rfl, by rw [List.append_nil], sv.aft⟩ ?_
  intro w f S' ⟨rest, acc, hf, hw, hp, ha⟩
  subst hf hw
  have hl := hp.length_eq
  rw [List.length_append] at hl
  have hin : ∀ d ∈ rest, dQ d = true ∧ dDp d ≤ 60 := fun d hd => hq d (hp.subset (List.mem_append_left _ hd))
  walk_at "mi go"
  refine OW.some (pNe_nil (dQs_of fun d hd => (hin d hd).1) (dDps_of fun d hd => (hin d hd).2)) ?_
  refine ite_i (fun hc => ?_) (fun hc => ?_)
  · have hne : rest ≠ [] := by rintro rfl; cases hc
    have hpos := List.length_pos_iff.mpr hne
    walk_at "mi go"
    refine p_draw (by omega) (k := k + acc.length) (by omega) (ha.stm sv.lt) (by omega) (by omega) fun r S'' hr0 hr1 ha2 => ?_
    walk_at "mi go"
    obtain ⟨x, e1, e2⟩ := hPopAt_ok hr0 hr1 (by omega)
    refine OW.some e2 ?_
    walk_at "mi go"
    have hL : acc.length < LIM := by show acc.length < 16777216; omega
    refine OW.some (if_pos hL) ?_
    have hpe := perm_erase e1
    have hle := hpe.length_eq
    rw [List.length_cons] at hle
    refine ⟨(rest.eraseIdx r.toNat).length, by omega, rest.eraseIdx r.toNat, acc ++ [x], rfl, rfl, ?_, ?_⟩
    · refine List.Perm.trans ?_ hp
      refine List.Perm.trans ?_ (hpe.append_right acc)
      rw [← List.append_assoc]
      exact (List.perm_append_comm (l₁ := rest.eraseIdx r.toNat ++ acc) (l₂ := [x]))
    · rw [List.length_append]
      exact (ha.trans ha2).mono (by simp; omega)
  · have he : rest = [] := by
      cases rest with
      | nil => rfl
      | cons d r => cases hc
    subst he
    walk_at "mi go"
    exact h acc true S' hp (ha.mono (by simp at hl; omega))
theorem p_loose (N : Nat) : ∀ {n : Nat} {lam : Store → CR} {S : Store} {Q : D → Bool → Store → Prop} {E : Nat → List (Tx × D) → Store → Prop} {i k : Nat} {d : D}, dDp d ≤ N → N + 2 ≤ n → dPl d = true → k + lkD d < 2 ^ 40 → Stm k i S → (∀ d' S', Ls d d' → Aft (k + lkD d) i S S' → Q d' false S') → CW (callM bd n 16 [.val (.ref i), .val d] lam S) Q E := by
  induction N with
  | zero =>
    intro n lam S Q E i k d hd hn hp hk sv h
    have hs : sqOf d = none := by
      cases hs : sqOf d with
      | none => rfl
      | some ds => rw [dDp_sq hs] at hd; omega
    obtain ⟨m, rfl⟩ : ∃ m, n = m + 1 := ⟨n - 1, by omega⟩; refine w__law_loose ?_; unfold m__law_loose
    cases d <;> first | (cases hp; done) | (cases hs; done) | (walk_at "mi go"; exact h _ _ (.leaf hs) (sv.mono (Nat.le_add_right _ _)).aft)
  | succ N ih =>
    intro n lam S Q E i k d hd hn hp hk sv h
    cases hs : sqOf d with
    | none =>
      obtain ⟨m, rfl⟩ : ∃ m, n = m + 1 := ⟨n - 1, by omega⟩; refine w__law_loose ?_; unfold m__law_loose
      cases d <;> first | (cases hp; done) | (cases hs; done) | (walk_at "mi go"; exact h _ _ (.leaf hs) (sv.mono (Nat.le_add_right _ _)).aft)
    | some ds =>
      have h1 := dDp_sq hs
      have h2 := lkD_sq hs
      obtain ⟨h3, h4⟩ := dPl_sq hs hp
      have fin : ∀ (es : List D) (S' : Store), LsA ds es → Aft (k + lkDs ds) i S S' → ∀ {m : Nat} {lam : Store → CR} {x : Sl}, 1 ≤ m → SW (sRet (mIf (mBin (cmpOp .Eq) (.e (mFz (mCall 13 [(mVar 0), (mC (.int 2))]))) (.e (mC (.int 0)))) (mVl (mVar 2)) (mUn bTuple (.s 2))) ⟨callM bd m, lam, m, loM bd m⟩ [.val (.ref i), .val d, .own (.lst es), x] S') (fun _ _ => False) (fun d b _ S => Q d b S) (fun _ _ => False) (fun _ _ => False) fun c fs _ S => E c fs S := by
        intro es S' hl ha m lam x hm
        walk_at "mi go"
        refine p_draw (by omega) (k := k + lkDs ds) (by omega) (ha.stm sv.lt) (by decide) (by decide) fun r S'' hr0 hr1 ha2 => ?_
        have ha3 : Aft (k + lkD d) i S S'' := (ha.trans ha2).mono (by omega)
        walk_at "mi go"
        refine ite_i (fun hc => ?_) (fun hc => ?_)
        · walk_at "mi go"
          exact h _ _ (.seq hs rfl hl) ha3
        · walk_at "mi go"
          exact h _ _ (.seq hs rfl hl) ha3
      obtain ⟨m, rfl⟩ : ∃ m, n = m + 1 := ⟨n - 1, by omega⟩; refine w__law_loose ?_; unfold m__law_loose
      rcases sq_cases hs with rfl | rfl
      all_goals
        walk_at "mi go"
        refine w_comp (fun pre post acc f S' => LsA pre acc ∧ Aft (k + lkDs pre) i S S' ∧ ∃ x, f = [.val (.ref i), .val _, .un, x]) rfl rfl ⟨.nil, sv.aft.mono (Nat.le_add_right _ _), _, rfl⟩ h3 ?_ ?_
        · intro pre e post acc f S' hds hlen ⟨i1, i2, x, hf⟩
          subst hf
          have hm : e ∈ ds := by rw [hds]; exact List.mem_append_right _ List.mem_cons_self
          have hlk : lkDs ds = lkDs pre + (lkD e + lkDs post) := by rw [hds, lkDs_app]; simp only [lkDs]
          walk_at "mi go"
          refine ih (k := k + lkDs pre) (Nat.le_trans (dDp_mem hm) (by omega)) (by omega) (dPls_mem h4 hm) (by omega) (i2.stm sv.lt) fun d' S'' hl ha => ?_
          refine ⟨i1.snoc hl, ?_, _, rfl⟩
          rw [lkDs_app]
          refine (i2.trans ha).mono ?_
          simp only [lkDs]
          omega
        · intro acc f S' ⟨i1, i2, x, hf⟩
          subst hf
          exact SW.mono (fin acc S' i1 i2 (by omega)) (fun _ _ z => z.elim) (fun _ _ _ _ z => z) (fun _ _ z => z) (fun _ _ z => z) (fun _ _ _ _ z => z)
theorem p_same (N : Nat) : ∀ {n : Nat} {lam : Store → CR} {S : Store} {Q : D → Bool → Store → Prop} {E : Nat → List (Tx × D) → Store → Prop} {d : D}, dMu d ≤ N → N + 1 ≤ n → dPl d = true → Q (.bl true) false S → CW (callM bd n 17 [.val d, .val d] lam S) Q E := by
  induction N using Nat.strongRecOn with
  | ind N ih =>
    intro n lam S Q E d hd hn hp h
    have go : ∀ {ds : List D}, dMus ds + 1 ≤ N → ds.length ≤ LIM → dPls ds = true → ∀ {m : Nat} {lam : Store → CR} {d : D}, m + 1 = n → zipD d d = some (pairD ds ds) → RW (compK [2, 3] (.t [2, 3]) (mPure true) (mFz (mCall 17 [(mVar 2), (mVar 3)])) (pairD ds ds) ⟨callM bd m, lam, m, loM bd m⟩ [.val d, .val d, .un, .un] S) (fun r _ S' => S' = S ∧ r = (.lst (ds.map fun _ => .bl true), true)) fun _ _ _ _ => False := by
      intro ds h1 h2 h3 m lam d hm hz
      have hz : pairD ds ds = ds.map fun e => .tup [e, e] := by
        rw [pairD_zip]
        clear h1 h2 h3 hz
        induction ds with
        | nil => rfl
        | cons e ds ih2 => simp only [List.zip_cons_cons, List.map_cons, ih2]
      rw [hz]
      refine w_comp (fun pre post acc f S' => acc = pre.map (fun _ => .bl true) ∧ S' = S ∧ ∃ x y, f = [.val d, .val d, x, y]) rfl rfl ⟨rfl, rfl, _, _, rfl⟩ (by rw [List.length_map]; exact h2) ?_ ?_
      · intro pre e post acc f S' hds hlen ⟨i1, i2, x, y, hf⟩
        subst hf i1 i2
        have hm2 : e ∈ ds.map fun e => D.tup [e, e] := by rw [hds]; exact List.mem_append_right _ List.mem_cons_self
        obtain ⟨z, hz, rfl⟩ := List.mem_map.mp hm2
        walk_at "mi go"
        refine ih (N - 1) (by omega) (Nat.le_trans (dMu_mem hz) (by omega)) (by omega) (dPls_mem h3 hz) ?_
        exact ⟨by rw [List.map_append]; rfl, rfl, _, _, rfl⟩
      · intro acc f S' ⟨i1, i2, x, y, hf⟩
        subst hf i1 i2
        exact ⟨rfl, by rw [List.map_map]; rfl⟩
    obtain ⟨m, rfl⟩ : ∃ m, n = m + 1 := ⟨n - 1, by omega⟩; refine w__law_same ?_; unfold m__law_same
    cases d with
    | ref i => cases hp
    | scr i => cases hp
    | non =>
      walk_at "mi go"
      exact h
    | bl b =>
      cases b
      all_goals
        walk_at "mi go"
        exact h
    | int i =>
      walk_at "mi go"
      rw [decide_eq_true rfl]
      exact h
    | str i =>
      walk_at "mi go"
      rw [decide_eq_true rfl]
      exact h
    | tup ds =>
      obtain ⟨h3, h4⟩ := dPl_sq (d := .tup ds) rfl hp
      rw [dMu_sq (d := .tup ds) rfl] at hd
      walk_at "mi go"
      refine ite_T (decide_eq_true rfl) ?_
      walk_at "mi go"
      refine (go hd h3 h4 rfl rfl).mono ?_ (fun _ _ _ _ z => z.elim)
      intro r f' S' ⟨e1, e2⟩
      subst e1 e2
      walk_at "mi go"
      refine OW.some (bAll_true ds) ?_
      exact h
    | lst ds =>
      obtain ⟨h3, h4⟩ := dPl_sq (d := .lst ds) rfl hp
      rw [dMu_sq (d := .lst ds) rfl] at hd
      walk_at "mi go"
      refine ite_T (decide_eq_true rfl) ?_
      walk_at "mi go"
      refine (go hd h3 h4 rfl rfl).mono ?_ (fun _ _ _ _ z => z.elim)
      intro r f' S' ⟨e1, e2⟩
      subst e1 e2
      walk_at "mi go"
      refine OW.some (bAll_true ds) ?_
      exact h
    | dct kvs =>
      have hp' : (decide (kvs.length ≤ LIM) && dPlk kvs) = true := by simpa only [dPl] using hp
      obtain ⟨h3, h4⟩ := Bool.and_eq_true_iff.mp hp'
      have h3 := of_decide_eq_true h3
      have hi := dMu_items kvs
      simp only [dMu] at hd
      walk_at "mi go"
      refine ih (N - 1) (by omega) ?_ (by omega) ?_ ?_
      · simp only [dMu]; omega
      · have e : (itItems kvs).length ≤ LIM := by unfold itItems; rw [List.length_map]; exact h3
        simp only [dPl, dPl_items h4, decide_eq_true e, Bool.and_self]
      · walk_at "mi go"
        exact h

end
end Gx
set_option Elab.async false
set_option linter.all false
set_option maxRecDepth 100000
set_option maxHeartbeats 1000000
namespace Gx
open PySem Mi
local macro_rules | `(tactic| walk_at "mi go") => `(tactic| (repeat (first | ((with_reducible refine' putI ?e ?_); (case e => ((try dsimp only [List.set_cons_zero, List.set_cons_succ, slOf_f, slOf_t, wipeF, backF, Tg.put, putAll, List.getElem?_cons_zero, List.getElem?_cons_succ, Option.getD_some]); (try rfl)))) | ((with_reducible refine' OW.some ?e ?_); (case e => rfl)) | with_reducible refine w_ope ?_ | with_reducible refine w_c ?_ | with_reducible refine w_fz ?_ | with_reducible refine w_all1 ?_ | ((with_reducible refine' w_ops ?e ?_); (case e => rfl)) | ((with_reducible refine' w_at2 ?e1 ?e2 ?_); (case e1 => rfl); (case e2 => rfl)) | with_reducible refine w_bin ?_ | ((with_reducible refine' w_at1 ?e ?_); (case e => rfl)) | with_reducible refine w_all0 ?_ | with_reducible refine s_seq ?_ | with_reducible refine w_un ?_ | with_reducible refine s_if ?_ | ((with_reducible refine lenI ?e ?_); (case e => exact Nat.le_of_ble_eq_true rfl)) | ((with_reducible refine ite_F ?e ?_); (case e => rfl)) | ((with_reducible refine' w_var ?e ?_); (case e => rfl)) | with_reducible refine s_nx ?_ | with_reducible refine w_tup ?_ | ((with_reducible refine ite_T ?e ?_); (case e => rfl)) | with_reducible refine s_ret ?_ | with_reducible refine w_call ?_ | with_reducible refine w_truth ?_ | ((with_reducible refine' setI ?e ?_); (case e => ((try dsimp only [List.set_cons_zero, List.set_cons_succ, slOf_f, slOf_t, wipeF, backF, Tg.put, putAll, List.getElem?_cons_zero, List.getElem?_cons_succ, Option.getD_some]); (try rfl)))) | with_reducible refine w_ife ?_ | with_reducible refine s_set ?_ | with_reducible refine w_vl ?_ | with_reducible refine w_lst ?_ | with_reducible refine w_iter ?_ | with_reducible refine w_andV ?_ | ((with_reducible refine' s_retV ?e ?_); (case e => rfl)) | with_reducible refine s_for ?_ | ((with_reducible refine' w_mut ?e ?eL ?_); (case e => rfl); (case eL => rfl)) | with_reducible refine s_drop ?_ | with_reducible refine w_cut ?_ | with_reducible refine w_part ?_ | with_reducible refine w_nopart ?_ | with_reducible refine w_mcomp ?_ | with_reducible refine w_pure ?_ | with_reducible refine w_not ?_ | ((with_reducible refine' w_varO ?e ?_); (case e => rfl)) | with_reducible refine w_dct ?_ | with_reducible refine w_pairs0 ?_ | ((with_reducible refine kvsI ?e ?_); (case e => exact Nat.le_of_ble_eq_true rfl)) | ((with_reducible refine' s_retO ?e ?_); (case e => rfl)) | with_reducible refine w_notV ?_ | with_reducible refine w_or ?_ | with_reducible refine w_zip ?_ | with_reducible refine w_get ?_ | ((with_reducible refine' w_isD ?e ?_); (case e => rfl)) | ((with_reducible refine peI ?e ?_); (case e => exact ⟨_, rfl⟩)) | with_reducible refine w_range1 ?_ | with_reducible refine w_pairs1 ?_ | with_reducible refine s_par ?_ | with_reducible refine s_while ?_ | with_reducible refine s_put ?_ | with_reducible refine s_tup ?_ | with_reducible refine s_raise ?_ | with_reducible refine s_try ?_ | with_reducible refine s_retN ?_ | with_reducible refine s_bk ?_ | with_reducible refine s_ct ?_ | with_reducible refine w_chain ?_ | with_reducible refine w_and ?_ | with_reducible refine w_bl ?_ | with_reducible refine w_orV ?_ | with_reducible refine w_lstS ?_ | with_reducible refine w_callK ?_ | with_reducible refine w_meth1 ?_ | with_reducible refine w_enum ?_ | with_reducible refine w_opt ?_ | with_reducible refine w_range2 ?_ | with_reducible refine s_forD ?_ | with_reducible refine w_compD ?_ | ((with_reducible refine' w_isT ?e ?k ?_); (case e => rfl); (case k => rfl)) | ((with_reducible refine' w_ex ?e ?e2 ?_); (case e => rfl); (case e2 => rfl)) | ((with_reducible refine ltI ?e ?_); (case e => exact Nat.le_of_ble_eq_true rfl)))))
local macro_rules | `(tactic| walk_at "mi w") => `(tactic| (repeat (first | ((with_reducible refine' putI ?e ?_); (case e => ((try dsimp only [List.set_cons_zero, List.set_cons_succ, slOf_f, slOf_t, wipeF, backF, Tg.put, putAll, List.getElem?_cons_zero, List.getElem?_cons_succ, Option.getD_some]); (try rfl)))) | ((with_reducible refine' OW.some ?e ?_); (case e => rfl)) | with_reducible refine w_ope ?_ | with_reducible refine w_c ?_ | with_reducible refine w_fz ?_ | with_reducible refine w_all1 ?_ | ((with_reducible refine' w_ops ?e ?_); (case e => rfl)) | ((with_reducible refine' w_at2 ?e1 ?e2 ?_); (case e1 => rfl); (case e2 => rfl)) | with_reducible refine w_bin ?_ | ((with_reducible refine' w_at1 ?e ?_); (case e => rfl)) | with_reducible refine w_all0 ?_ | with_reducible refine w_un ?_ | ((with_reducible refine lenI ?e ?_); (case e => exact Nat.le_of_ble_eq_true rfl)) | ((with_reducible refine ite_F ?e ?_); (case e => rfl)) | ((with_reducible refine' w_var ?e ?_); (case e => rfl)) | with_reducible refine w_tup ?_ | ((with_reducible refine ite_T ?e ?_); (case e => rfl)) | with_reducible refine w_call ?_ | with_reducible refine w_truth ?_ | ((with_reducible refine' setI ?e ?_); (case e => ((try dsimp only [List.set_cons_zero, List.set_cons_succ, slOf_f, slOf_t, wipeF, backF, Tg.put, putAll, List.getElem?_cons_zero, List.getElem?_cons_succ, Option.getD_some]); (try rfl)))) | with_reducible refine w_ife ?_ | with_reducible refine w_vl ?_ | with_reducible refine w_lst ?_ | with_reducible refine w_iter ?_ | with_reducible refine w_andV ?_ | ((with_reducible refine' w_mut ?e ?eL ?_); (case e => rfl); (case eL => rfl)) | with_reducible refine w_cut ?_ | with_reducible refine w_part ?_ | with_reducible refine w_nopart ?_ | with_reducible refine w_mcomp ?_ | with_reducible refine w_pure ?_ | with_reducible refine w_not ?_ | ((with_reducible refine' w_varO ?e ?_); (case e => rfl)) | with_reducible refine w_dct ?_ | with_reducible refine w_pairs0 ?_ | ((with_reducible refine kvsI ?e ?_); (case e => exact Nat.le_of_ble_eq_true rfl)) | with_reducible refine w_notV ?_ | with_reducible refine w_or ?_ | with_reducible refine w_zip ?_ | with_reducible refine w_get ?_ | ((with_reducible refine' w_isD ?e ?_); (case e => rfl)) | ((with_reducible refine peI ?e ?_); (case e => exact ⟨_, rfl⟩)) | with_reducible refine w_range1 ?_ | with_reducible refine w_pairs1 ?_ | with_reducible refine w_chain ?_ | with_reducible refine w_and ?_ | with_reducible refine w_bl ?_ | with_reducible refine w_orV ?_ | with_reducible refine w_lstS ?_ | with_reducible refine w_callK ?_ | with_reducible refine w_meth1 ?_ | with_reducible refine w_enum ?_ | with_reducible refine w_opt ?_ | with_reducible refine w_range2 ?_ | with_reducible refine w_compD ?_ | ((with_reducible refine' w_isT ?e ?k ?_); (case e => rfl); (case k => rfl)) | ((with_reducible refine' w_ex ?e ?e2 ?_); (case e => rfl); (case e2 => rfl)) | ((with_reducible refine ltI ?e ?_); (case e => exact Nat.le_of_ble_eq_true rfl)))))
section
variable {n : Nat} {lam : Store → CR} {S : Store} {Q : D → Bool → Store → Prop} {E : Nat → List (Tx × D) → Store → Prop}
def isI : D → Bool
  | .int _ => true
  | _ => false
theorem p_is_integer (hn : 1 ≤ n) {d : D} (hp : dPl d = true) (h : Q (.bl (isI d)) false S) : CW (callM bd n 0 [.val d] lam S) Q E := by
  obtain ⟨m, rfl⟩ : ∃ m, n = m + 1 := ⟨n - 1, by omega⟩; refine w_is_integer ?_; unfold m_is_integer
  cases d <;> first | (cases hp; done) | (walk_at "mi go"; exact h)
theorem p_is_list (hn : 1 ≤ n) {d : D} (hp : dPl d = true) (h : Q (.bl (sqOf d).isSome) false S) : CW (callM bd n 1 [.val d] lam S) Q E := by
  obtain ⟨m, rfl⟩ : ∃ m, n = m + 1 := ⟨n - 1, by omega⟩; refine w_is_list ?_; unfold m_is_list
  cases d <;> first | (cases hp; done) | (walk_at "mi go"; exact h)
def FIRSTc : Tx := txs "abcdefghijklmnopqrstuvwxyz"
def LATERc : Tx := txs "abcdefghijklmnopqrstuvwxyz0123456789"
def SIGNSc : Tx := txs " !\"#$&'()*+,-./0123456789:;<=>?@ABCDEFGHIJKLMNOPQRSTUVWXYZ[\\]^_`abcdefghijklmnopqrstuvwxyz{|}~"
def nameT (x : Tx) : Bool := decide (0 < x.length) && (decide (x.length < 9) && (decide (x.headD 0 ∈ FIRSTc) && x.all fun c => decide (c ∈ LATERc)))
def nameB : D → Bool
  | .str x => nameT x
  | _ => false
theorem chars_all {P : Tx → Bool} (p : Nat → Bool) (x : Tx) (h : ∀ c, P [c] = p c) : True := trivial
theorem p_is_nameT (hn : 1 ≤ n) {x : Tx} (hx : x.length ≤ LIM) (h : Q (.bl (nameT x)) false S) : CW (callM bd n 2 [.val (.str x)] lam S) Q E := by
  obtain ⟨m, rfl⟩ : ∃ m, n = m + 1 := ⟨n - 1, by omega⟩; refine w_is_name ?_; unfold m_is_name
  walk_at "mi go"
  refine OW.some (if_pos hx) ?_
  walk_at "mi go"
  cases x with
  | nil =>
    walk_at "mi go"
    exact h
  | cons c r =>
    refine ite_T (decide_eq_true (by simp only [List.length_cons]; omega)) ?_
    walk_at "mi go"
    refine ite_i (fun hc => ?_) (fun hc => ?_)
    · have h9 : ¬ (c :: r).length < 9 := by
        intro hlt
        simp only [List.length_cons] at hlt
        simp at hc
        omega
      walk_at "mi go"
      have e : nameT (c :: r) = false := by unfold nameT; rw [decide_eq_false h9]; simp
      rw [e] at h
      exact h
    · have h9 : (c :: r).length < 9 := by
        have := hc
        simp at this
        simp only [List.length_cons]
        omega
      walk_at "mi go"
      refine OW.some (pIx_str0 hx) ?_
      walk_at "mi go"
      refine ite_i (fun hc => ?_) (fun hc => ?_)
      · have hF : ¬ c ∈ FIRSTc := by
          intro hm
          have : decide (c ∈ txs "abcdefghijklmnopqrstuvwxyz") = true := decide_eq_true hm
          simp [this] at hc
        walk_at "mi go"
        have e : nameT (c :: r) = false := by unfold nameT; rw [show (c :: r).headD 0 = c from rfl, decide_eq_false hF]; simp
        rw [e] at h
        exact h
      · have hF : c ∈ FIRSTc := by
          have h2 : decide (c ∈ txs "abcdefghijklmnopqrstuvwxyz") = true := by simpa using hc
          exact of_decide_eq_true h2
        walk_at "mi go"
        refine w_compM (xs := c :: r) (fun c => .str [c]) (fun c => .bl (decide (c ∈ LATERc))) (fun f => ∃ x1, f = [.val (.str (c :: r)), x1]) rfl rfl ⟨_, rfl⟩ hx ?_ ?_
        · intro a ha f ⟨x1, hf⟩
          subst hf
          walk_at "mi go"
          exact ⟨rfl, rfl, _, rfl⟩
        · intro f ⟨x1, hf⟩
          subst hf
          walk_at "mi go"
          refine OW.some (bAll_map _ _) ?_
          have e : nameT (c :: r) = (c :: r).all fun c => decide (c ∈ LATERc) := by
            unfold nameT
            rw [show (c :: r).headD 0 = c from rfl, decide_eq_true hF, decide_eq_true h9, decide_eq_true (show 0 < (c :: r).length by simp)]
            rfl
          rw [← e]
          exact h
theorem p_is_name (hn : 1 ≤ n) {d : D} (hp : dPl d = true) (hx : ∀ x, d = .str x → x.length ≤ LIM) (h : Q (.bl (nameB d)) false S) : CW (callM bd n 2 [.val d] lam S) Q E := by
  cases d with
  | str x => exact p_is_nameT hn (hx x rfl) h
  | ref i => cases hp
  | scr i => cases hp
  | _ =>
    obtain ⟨m, rfl⟩ : ∃ m, n = m + 1 := ⟨n - 1, by omega⟩; refine w_is_name ?_; unfold m_is_name
    walk_at "mi go"
    exact h
theorem p_is_sign (hn : 1 ≤ n) {c : Nat} (h : Q (.bl (decide (c ∈ SIGNSc))) false S) : CW (callM bd n 3 [.val (.str [c])] lam S) Q E := by
  obtain ⟨m, rfl⟩ : ∃ m, n = m + 1 := ⟨n - 1, by omega⟩; refine w_is_sign ?_; unfold m_is_sign
  walk_at "mi go"
  exact h
def textT (x : Tx) : Bool := x.all fun c => decide (c ∈ SIGNSc) || decide (c = 10)
def textB : D → Bool
  | .str x => textT x
  | _ => false
theorem p_is_textT (hn : 2 ≤ n) {x : Tx} (hx : x.length ≤ LIM) (h : Q (.bl (textT x)) false S) : CW (callM bd n 4 [.val (.str x)] lam S) Q E := by
  obtain ⟨m, rfl⟩ : ∃ m, n = m + 1 := ⟨n - 1, by omega⟩; refine w_is_text ?_; unfold m_is_text
  walk_at "mi go"
  refine w_compM (xs := x) (fun c => .str [c]) (fun c => .bl (decide (c ∈ SIGNSc) || decide (c = 10))) (fun f => ∃ x1, f = [.val (.str x), x1]) rfl rfl ⟨_, rfl⟩ hx ?_ ?_
  · intro a ha f ⟨x1, hf⟩
    subst hf
    walk_at "mi go"
    refine p_is_sign (by omega) ?_
    walk_at "mi go"
    refine ite_i (fun hc => ?_) (fun hc => ?_)
    · walk_at "mi go"
      rw [hc]
      exact ⟨rfl, rfl, _, rfl⟩
    · walk_at "mi go"
      rw [hc]
      refine ⟨?_, rfl, _, rfl⟩
      show D.bl (decide ([a] = txs "\n")) = _
      rw [show txs "\n" = [10] from rfl]
      simp
  · intro f ⟨x1, hf⟩
    subst hf
    walk_at "mi go"
    refine OW.some (bAll_map _ _) ?_
    exact h
theorem p_is_text (hn : 2 ≤ n) {d : D} (hp : dPl d = true) (hx : ∀ x, d = .str x → x.length ≤ LIM) (h : Q (.bl (textB d)) false S) : CW (callM bd n 4 [.val d] lam S) Q E := by
  cases d with
  | str x => exact p_is_textT hn (hx x rfl) h
  | ref i => cases hp
  | scr i => cases hp
  | _ =>
    obtain ⟨m, rfl⟩ : ∃ m, n = m + 1 := ⟨n - 1, by omega⟩; refine w_is_text ?_; unfold m_is_text
    walk_at "mi go"
    exact h

end
end Gx
set_option Elab.async false
set_option linter.all false
set_option maxRecDepth 100000
set_option maxHeartbeats 1000000
namespace Gx
open PySem Mi
local macro_rules | `(tactic| walk_at "mi go") => `(tactic| (repeat (first | ((with_reducible refine' putI ?e ?_); (case e => ((try dsimp only [List.set_cons_zero, List.set_cons_succ, slOf_f, slOf_t, wipeF, backF, Tg.put, putAll, List.getElem?_cons_zero, List.getElem?_cons_succ, Option.getD_some]); (try rfl)))) | ((with_reducible refine' OW.some ?e ?_); (case e => rfl)) | with_reducible refine w_ope ?_ | with_reducible refine w_c ?_ | with_reducible refine w_fz ?_ | with_reducible refine w_all1 ?_ | ((with_reducible refine' w_ops ?e ?_); (case e => rfl)) | ((with_reducible refine' w_at2 ?e1 ?e2 ?_); (case e1 => rfl); (case e2 => rfl)) | with_reducible refine w_bin ?_ | ((with_reducible refine' w_at1 ?e ?_); (case e => rfl)) | with_reducible refine w_all0 ?_ | with_reducible refine s_seq ?_ | with_reducible refine w_un ?_ | with_reducible refine s_if ?_ | ((with_reducible refine lenI ?e ?_); (case e => exact Nat.le_of_ble_eq_true rfl)) | ((with_reducible refine ite_F ?e ?_); (case e => rfl)) | ((with_reducible refine' w_var ?e ?_); (case e => rfl)) | with_reducible refine s_nx ?_ | with_reducible refine w_tup ?_ | ((with_reducible refine ite_T ?e ?_); (case e => rfl)) | with_reducible refine s_ret ?_ | with_reducible refine w_call ?_ | with_reducible refine w_truth ?_ | ((with_reducible refine' setI ?e ?_); (case e => ((try dsimp only [List.set_cons_zero, List.set_cons_succ, slOf_f, slOf_t, wipeF, backF, Tg.put, putAll, List.getElem?_cons_zero, List.getElem?_cons_succ, Option.getD_some]); (try rfl)))) | with_reducible refine w_ife ?_ | with_reducible refine s_set ?_ | with_reducible refine w_vl ?_ | with_reducible refine w_lst ?_ | with_reducible refine w_iter ?_ | with_reducible refine w_andV ?_ | ((with_reducible refine' s_retV ?e ?_); (case e => rfl)) | with_reducible refine s_for ?_ | ((with_reducible refine' w_mut ?e ?eL ?_); (case e => rfl); (case eL => rfl)) | with_reducible refine s_drop ?_ | with_reducible refine w_cut ?_ | with_reducible refine w_part ?_ | with_reducible refine w_nopart ?_ | with_reducible refine w_mcomp ?_ | with_reducible refine w_pure ?_ | with_reducible refine w_not ?_ | ((with_reducible refine' w_varO ?e ?_); (case e => rfl)) | with_reducible refine w_dct ?_ | with_reducible refine w_pairs0 ?_ | ((with_reducible refine kvsI ?e ?_); (case e => exact Nat.le_of_ble_eq_true rfl)) | ((with_reducible refine' s_retO ?e ?_); (case e => rfl)) | with_reducible refine w_notV ?_ | with_reducible refine w_or ?_ | with_reducible refine w_zip ?_ | with_reducible refine w_get ?_ | ((with_reducible refine' w_isD ?e ?_); (case e => rfl)) | ((with_reducible refine peI ?e ?_); (case e => exact ⟨_, rfl⟩)) | with_reducible refine w_range1 ?_ | with_reducible refine w_pairs1 ?_ | with_reducible refine s_par ?_ | with_reducible refine s_while ?_ | with_reducible refine s_put ?_ | with_reducible refine s_tup ?_ | with_reducible refine s_raise ?_ | with_reducible refine s_try ?_ | with_reducible refine s_retN ?_ | with_reducible refine s_bk ?_ | with_reducible refine s_ct ?_ | with_reducible refine w_chain ?_ | with_reducible refine w_and ?_ | with_reducible refine w_bl ?_ | with_reducible refine w_orV ?_ | with_reducible refine w_lstS ?_ | with_reducible refine w_callK ?_ | with_reducible refine w_meth1 ?_ | with_reducible refine w_enum ?_ | with_reducible refine w_opt ?_ | with_reducible refine w_range2 ?_ | with_reducible refine s_forD ?_ | with_reducible refine w_compD ?_ | ((with_reducible refine' w_isT ?e ?k ?_); (case e => rfl); (case k => rfl)) | ((with_reducible refine' w_ex ?e ?e2 ?_); (case e => rfl); (case e2 => rfl)) | ((with_reducible refine ltI ?e ?_); (case e => exact Nat.le_of_ble_eq_true rfl)))))
local macro_rules | `(tactic| walk_at "mi w") => `(tactic| (repeat (first | ((with_reducible refine' putI ?e ?_); (case e => ((try dsimp only [List.set_cons_zero, List.set_cons_succ, slOf_f, slOf_t, wipeF, backF, Tg.put, putAll, List.getElem?_cons_zero, List.getElem?_cons_succ, Option.getD_some]); (try rfl)))) | ((with_reducible refine' OW.some ?e ?_); (case e => rfl)) | with_reducible refine w_ope ?_ | with_reducible refine w_c ?_ | with_reducible refine w_fz ?_ | with_reducible refine w_all1 ?_ | ((with_reducible refine' w_ops ?e ?_); (case e => rfl)) | ((with_reducible refine' w_at2 ?e1 ?e2 ?_); (case e1 => rfl); (case e2 => rfl)) | with_reducible refine w_bin ?_ | ((with_reducible refine' w_at1 ?e ?_); (case e => rfl)) | with_reducible refine w_all0 ?_ | with_reducible refine w_un ?_ | ((with_reducible refine lenI ?e ?_); (case e => exact Nat.le_of_ble_eq_true rfl)) | ((with_reducible refine ite_F ?e ?_); (case e => rfl)) | ((with_reducible refine' w_var ?e ?_); (case e => rfl)) | with_reducible refine w_tup ?_ | ((with_reducible refine ite_T ?e ?_); (case e => rfl)) | with_reducible refine w_call ?_ | with_reducible refine w_truth ?_ | ((with_reducible refine' setI ?e ?_); (case e => ((try dsimp only [List.set_cons_zero, List.set_cons_succ, slOf_f, slOf_t, wipeF, backF, Tg.put, putAll, List.getElem?_cons_zero, List.getElem?_cons_succ, Option.getD_some]); (try rfl)))) | with_reducible refine w_ife ?_ | with_reducible refine w_vl ?_ | with_reducible refine w_lst ?_ | with_reducible refine w_iter ?_ | with_reducible refine w_andV ?_ | ((with_reducible refine' w_mut ?e ?eL ?_); (case e => rfl); (case eL => rfl)) | with_reducible refine w_cut ?_ | with_reducible refine w_part ?_ | with_reducible refine w_nopart ?_ | with_reducible refine w_mcomp ?_ | with_reducible refine w_pure ?_ | with_reducible refine w_not ?_ | ((with_reducible refine' w_varO ?e ?_); (case e => rfl)) | with_reducible refine w_dct ?_ | with_reducible refine w_pairs0 ?_ | ((with_reducible refine kvsI ?e ?_); (case e => exact Nat.le_of_ble_eq_true rfl)) | with_reducible refine w_notV ?_ | with_reducible refine w_or ?_ | with_reducible refine w_zip ?_ | with_reducible refine w_get ?_ | ((with_reducible refine' w_isD ?e ?_); (case e => rfl)) | ((with_reducible refine peI ?e ?_); (case e => exact ⟨_, rfl⟩)) | with_reducible refine w_range1 ?_ | with_reducible refine w_pairs1 ?_ | with_reducible refine w_chain ?_ | with_reducible refine w_and ?_ | with_reducible refine w_bl ?_ | with_reducible refine w_orV ?_ | with_reducible refine w_lstS ?_ | with_reducible refine w_callK ?_ | with_reducible refine w_meth1 ?_ | with_reducible refine w_enum ?_ | with_reducible refine w_opt ?_ | with_reducible refine w_range2 ?_ | with_reducible refine w_compD ?_ | ((with_reducible refine' w_isT ?e ?k ?_); (case e => rfl); (case k => rfl)) | ((with_reducible refine' w_ex ?e ?e2 ?_); (case e => rfl); (case e2 => rfl)) | ((with_reducible refine ltI ?e ?_); (case e => exact Nat.le_of_ble_eq_true rfl)))))
section
variable {n : Nat} {lam : Store → CR} {S : Store} {Q : D → Bool → Store → Prop} {E : Nat → List (Tx × D) → Store → Prop}
theorem DIG_eq : txs "0123456789" = DIGc := rfl
def numD (o : Option Int) : D := match o with
  | some v => .int v
  | none => .non
theorem p_number_in (hn : 1 ≤ n) {x : Tx} (hx : x.length ≤ 600) (h : Q (numD (numT x)) false S) : CW (callM bd n 7 [.val (.str x)] lam S) Q E := by
  have hL : x.length ≤ LIM := by show _ ≤ 16777216; omega
  obtain ⟨m, rfl⟩ : ∃ m, n = m + 1 := ⟨n - 1, by omega⟩; refine w_number_in ?_; unfold m_number_in
  walk_at "mi go"
  refine OW.some (pCut_str hL) ?_
  walk_at "mi go"
  rw [cut_n1]
  cases x with
  | nil =>
    walk_at "mi go"
    exact h
  | cons c r =>
    have hr : r.length ≤ LIM := by simp only [List.length_cons] at hL; omega
    -- what stands in figures
    have tail : ∀ (fg : Tx) {m : Nat} {lam : Store → CR}, fg.length ≤ LIM → (∀ {Q' : Int → Prop}, fg ≠ [] → digB fg = true → (∀ v, numT (c :: r) = some v → Q' v) → OW (bInt S (.str (c :: r))) fun r => ∃ v, r = (.int v, false) ∧ Q' v) → ((fg = [] ∨ digB fg = false) → numT (c :: r) = none) →
        SW (sSeq (sIf (mBin (cmpOp .Eq) (.s 0) (.e (mC (.str (txs ""))))) (sRet (mVl (mC (.int 0)))) sNx) (sRet (mIf (mAnd (mBin (cmpOp .NotEq) (.s 1) (.e (mC (.str (txs ""))))) (mTruth (.e (mFz (mUn bAll (.e (mFz (mComp [2] (.n 2) (mIter (mVar 1)) (mPure true) (mBin (fun S d e => (cmpOp .In S d e).map .bl) (.s 2) (.e (mC (.str (txs "0123456789"))))))))))))) (mUn bInt (.s 0)) (mVl (mC .non)))) ⟨callM bd m, lam, m, loM bd m⟩ [.val (.str (c :: r)), .val (.str fg), .un] S) (fun _ _ => False) (fun d b _ S => Q d b S) (fun _ _ => False) (fun _ _ => False) fun c fs _ S => E c fs S := by
      intro fg m lam hfg h1 h2
      walk_at "mi go"
      cases fg with
      | nil =>
        walk_at "mi go"
        rw [h2 (.inl rfl)] at h
        exact h
      | cons a fr =>
        walk_at "mi go"
        refine w_compM (xs := a :: fr) (fun c => .str [c]) (fun c => .bl (decide (c ∈ DIGc))) (fun f => ∃ x1, f = [.val (.str (c :: r)), .val (.str (a :: fr)), x1]) rfl rfl ⟨_, rfl⟩ hfg ?_ ?_
        · intro b hb f ⟨x1, hf⟩
          subst hf
          walk_at "mi go"
          exact ⟨rfl, rfl, _, rfl⟩
        · intro f ⟨x1, hf⟩
          subst hf
          walk_at "mi go"
          refine OW.some (bAll_map _ _) ?_
          walk_at "mi go"
          refine ite_i (fun hc => ?_) (fun hc => ?_)
          · walk_at "mi go"
            have z := h1 (Q' := fun v => numT (c :: r) = some v) (by simp) hc (fun v e => e)
            obtain ⟨rr, e1, v, e2, e3⟩ := z.elim
            refine OW.some e1 ?_
            subst e2
            rw [e3] at h
            exact h
          · walk_at "mi go"
            rw [h2 (.inr hc)] at h
            exact h
    refine ite_i (fun hc => ?_) (fun hc => ?_)
    · have ec : c = 45 := by
        have e := of_decide_eq_true hc
        have e2 : txs "-" = [45] := rfl
        rw [e2] at e
        simpa using e
      walk_at "mi go"
      refine OW.some (pCut_str hL) ?_
      rw [cut_1n]
      walk_at "mi w"
      refine (tail r hr ?_ ?_).mono (fun _ _ z => z.elim) (fun _ _ _ _ z => z) (fun _ _ z => z) (fun _ _ z => z) (fun _ _ _ _ z => z)
      · intro Q' h0 hd hq
        subst ec
        refine OW.some (int_neg hd h0 (by omega) S) ⟨_, rfl, hq _ ?_⟩
        rw [numT_m, if_pos ⟨h0, hd⟩]
      · intro hz
        subst ec
        rw [numT_m, if_neg]
        rintro ⟨z1, z2⟩
        rcases hz with hz | hz
        · exact z1 hz
        · rw [hz] at z2; cases z2
    · have ec : c ≠ 45 := by
        intro e
        subst e
        exact absurd hc (by simp [show txs "-" = [45] from rfl])
      walk_at "mi w"
      refine (tail (c :: r) hL ?_ ?_).mono (fun _ _ z => z.elim) (fun _ _ _ _ z => z) (fun _ _ z => z) (fun _ _ z => z) (fun _ _ _ _ z => z)
      · intro Q' h0 hd hq
        refine OW.some (int_pos hd (by omega) S) ⟨_, rfl, hq _ ?_⟩
        rw [numT_o _ ec, if_pos hd]
      · intro hz
        rw [numT_o _ ec, if_neg]
        intro z2
        rcases hz with hz | hz
        · cases hz
        · rw [hz] at z2; cases z2
theorem p_law_number (hn : 1 ≤ n) {x : Tx} (hx : x.length ≤ 600) (h : Q (numD (numT x)) false S) : CW (callM bd n 21 [.val (.str x)] lam S) Q E := by
  have hL : x.length ≤ LIM := by show _ ≤ 16777216; omega
  obtain ⟨m, rfl⟩ : ∃ m, n = m + 1 := ⟨n - 1, by omega⟩; refine w__law_number ?_; unfold m__law_number
  walk_at "mi go"
  cases x with
  | nil =>
    walk_at "mi go"
    exact h
  | cons c r =>
    walk_at "mi go"
    refine OW.some (pIx_str0 hL) ?_
    walk_at "mi go"
    have tail : ∀ (lf : Tx) {m : Nat} {lam : Store → CR} {v : Int → Option Int}, (digB lf = false → numT (c :: r) = none) → (lf = [] → numT (c :: r) = none) → (lf ≠ [] → digB lf = true → numT (c :: r) = some (if decide (([c] : Tx) = txs "-") = true then -(NumText.digitsVal lf : Int) else NumText.digitsVal lf)) →
        SW (sSeq (sFor (.n 1) (mIter (mVar 2)) (sSeq (sIf (mBin (cmpOp .NotIn) (.s 1) (.e (mC (.str (txs "0123456789"))))) (sRet (mVl (mC .non))) sNx) (sSet 3 (mBin (h_bin .Add) (.e (mFz (mBin (h_bin .Mult) (.e (mC (.int 10))) (.s 3)))) (.e (mFz (mMeth1 "str" sIndex (.e (mC (.str (txs "0123456789")))) (.s 1)))))))) (sSeq (sIf (mBin (cmpOp .Eq) (.s 2) (.e (mC (.str (txs ""))))) (sRet (mVl (mC .non))) sNx) (sRet (mIf (mBin (cmpOp .Eq) (.e (mFz (mBin pIx (.s 0) (.e (mC (.int 0)))))) (.e (mC (.str (txs "-"))))) (mBin (h_bin .Sub) (.e (mC (.int 0))) (.s 3)) (mVl (mVar 3))))) ⟨callM bd m, lam, m, loM bd m⟩ [.val (.str (c :: r)), .un, .val (.str lf), .val (.int 0)] S) (fun _ _ => False) (fun d b _ S => Q d b S) (fun _ _ => False) (fun _ _ => False) fun c fs _ S => E c fs S := by
      intro lf m lam v h1 h2 h3
      walk_at "mi go"
      refine w_loop (fun pre post f S' => (∃ y z : Tx, lf = y ++ z ∧ pre = chars y ∧ post = chars z ∧ digB y = true ∧ ∃ x1, f = [.val (.str (c :: r)), x1, .val (.str lf), .val (.int (NumText.digitsVal y : Int))]) ∧ S' = S) ⟨⟨[], lf, rfl, rfl, rfl, rfl, _, rfl⟩, rfl⟩ ?_ ?_
      · intro pre d post f S' hds ⟨⟨y, z, e1, e2, e3, e4, x1, hf⟩, e5⟩
        subst hf e5
        cases z with
        | nil => cases e3
        | cons a z =>
          have ed : d = .str [a] ∧ post = chars z := by
            unfold chars at e3 ⊢
            simp only [List.map_cons, List.cons.injEq] at e3
            exact e3
          obtain ⟨ed, ep⟩ := ed
          subst ed ep
          walk_at "mi go"
          refine ite_i (fun hc => ?_) (fun hc => ?_)
          · walk_at "mi go"
            have hb : digB lf = false := by
              have hna : ¬ a ∈ DIGc := by
                intro hm
                have : decide (a ∈ txs "0123456789") = true := decide_eq_true hm
                simp [this] at hc
              unfold digB
              rw [e1, List.all_append, List.all_cons, decide_eq_false hna]
              simp
            rw [h1 hb] at h
            exact h
          · have hna : a ∈ DIGc := by
              have h2 : decide (a ∈ txs "0123456789") = true := by simpa using hc
              exact of_decide_eq_true h2
            walk_at "mi go"
            refine OW.some (sIndex_dig hna) ?_
            walk_at "mi go"
            refine ⟨⟨y ++ [a], z, by rw [e1]; simp, by rw [e2]; unfold chars; rw [List.map_append]; rfl, rfl, ?_, .val (.str [a]), ?_⟩, rfl⟩
            · unfold digB at e4 ⊢
              rw [List.all_append, e4, List.all_cons, decide_eq_true hna]
              rfl
            · have e : (10 : Int) * (NumText.digitsVal y : Int) + ((a - 48 : Nat) : Int) = (NumText.digitsVal (y ++ [a]) : Int) := by
                rw [digitsVal_snoc]
                omega
              rw [← e]
      · intro f S' ⟨⟨y, z, e1, e2, e3, e4, x1, hf⟩, e5⟩
        cases z with
        | cons a z => cases e3
        | nil =>
          rw [List.append_nil] at e1
          subst hf e5 e1
          walk_at "mi go"
          cases lf with
          | nil =>
            walk_at "mi go"
            rw [h2 rfl] at h
            exact h
          | cons a lf =>
            walk_at "mi go"
            refine OW.some (pIx_str0 hL) ?_
            walk_at "mi go"
            have hv := h3 (by simp) e4
            refine ite_i (fun hc => ?_) (fun hc => ?_)
            · rw [if_pos hc] at hv
              rw [hv] at h
              walk_at "mi go"
              rw [Int.zero_sub]
              exact h
            · rw [hc] at hv
              rw [hv] at h
              walk_at "mi go"
              exact h
    refine ite_i (fun hc => ?_) (fun hc => ?_)
    · have ec : c = 45 := by
        have e := of_decide_eq_true hc
        have e2 : txs "-" = [45] := rfl
        rw [e2] at e
        simpa using e
      subst ec
      have hn : numT (45 :: r) = if r ≠ [] ∧ digB r = true then some (-(NumText.digitsVal r : Int)) else none := numT_m r
      walk_at "mi w"
      refine OW.some (pCut_str hL) ?_
      rw [cut_1n]
      walk_at "mi w"
      refine (tail r (v := fun v => some v) ?_ ?_ ?_).mono (fun _ _ z => z.elim) (fun _ _ _ _ z => z) (fun _ _ z => z) (fun _ _ z => z) (fun _ _ _ _ z => z)
      · intro hz
        rw [hn, if_neg]
        rintro ⟨_, z2⟩
        rw [hz] at z2; cases z2
      · intro hz
        rw [hn, if_neg]
        rintro ⟨z1, _⟩
        exact z1 hz
      · intro h0 hd
        rw [hn, if_pos ⟨h0, hd⟩, if_pos hc]
    · have ec : c ≠ 45 := by
        intro e
        subst e
        exact absurd hc (by simp [show txs "-" = [45] from rfl])
      have hn : numT (c :: r) = if digB (c :: r) = true then some (NumText.digitsVal (c :: r) : Int) else none := numT_o r ec
      walk_at "mi w"
      refine (tail (c :: r) (v := fun v => some v) ?_ ?_ ?_).mono (fun _ _ z => z.elim) (fun _ _ _ _ z => z) (fun _ _ z => z) (fun _ _ z => z) (fun _ _ _ _ z => z)
      · intro hz
        rw [hn, if_neg (by rw [hz]; simp)]
      · intro hz
        cases hz
      · intro h0 hd
        rw [hn, if_pos hd, hc]
        rfl

end
end Gx
set_option Elab.async false
set_option linter.all false
set_option maxRecDepth 100000
set_option maxHeartbeats 1000000
namespace Gx
open PySem Mi
local macro_rules | `(tactic| walk_at "mi go") => `(tactic| (repeat (first | ((with_reducible refine' putI ?e ?_); (case e => ((try dsimp only [List.set_cons_zero, List.set_cons_succ, slOf_f, slOf_t, wipeF, backF, Tg.put, putAll, List.getElem?_cons_zero, List.getElem?_cons_succ, Option.getD_some]); (try rfl)))) | ((with_reducible refine' OW.some ?e ?_); (case e => rfl)) | with_reducible refine w_ope ?_ | with_reducible refine w_c ?_ | with_reducible refine w_fz ?_ | with_reducible refine w_all1 ?_ | ((with_reducible refine' w_ops ?e ?_); (case e => rfl)) | ((with_reducible refine' w_at2 ?e1 ?e2 ?_); (case e1 => rfl); (case e2 => rfl)) | with_reducible refine w_bin ?_ | ((with_reducible refine' w_at1 ?e ?_); (case e => rfl)) | with_reducible refine w_all0 ?_ | with_reducible refine s_seq ?_ | with_reducible refine w_un ?_ | with_reducible refine s_if ?_ | ((with_reducible refine lenI ?e ?_); (case e => exact Nat.le_of_ble_eq_true rfl)) | ((with_reducible refine ite_F ?e ?_); (case e => rfl)) | ((with_reducible refine' w_var ?e ?_); (case e => rfl)) | with_reducible refine s_nx ?_ | with_reducible refine w_tup ?_ | ((with_reducible refine ite_T ?e ?_); (case e => rfl)) | with_reducible refine s_ret ?_ | with_reducible refine w_call ?_ | with_reducible refine w_truth ?_ | ((with_reducible refine' setI ?e ?_); (case e => ((try dsimp only [List.set_cons_zero, List.set_cons_succ, slOf_f, slOf_t, wipeF, backF, Tg.put, putAll, List.getElem?_cons_zero, List.getElem?_cons_succ, Option.getD_some]); (try rfl)))) | with_reducible refine w_ife ?_ | with_reducible refine s_set ?_ | with_reducible refine w_vl ?_ | with_reducible refine w_lst ?_ | with_reducible refine w_iter ?_ | with_reducible refine w_andV ?_ | ((with_reducible refine' s_retV ?e ?_); (case e => rfl)) | with_reducible refine s_for ?_ | ((with_reducible refine' w_mut ?e ?eL ?_); (case e => rfl); (case eL => rfl)) | with_reducible refine s_drop ?_ | with_reducible refine w_cut ?_ | with_reducible refine w_part ?_ | with_reducible refine w_nopart ?_ | with_reducible refine w_mcomp ?_ | with_reducible refine w_pure ?_ | with_reducible refine w_not ?_ | ((with_reducible refine' w_varO ?e ?_); (case e => rfl)) | with_reducible refine w_dct ?_ | with_reducible refine w_pairs0 ?_ | ((with_reducible refine kvsI ?e ?_); (case e => exact Nat.le_of_ble_eq_true rfl)) | ((with_reducible refine' s_retO ?e ?_); (case e => rfl)) | with_reducible refine w_notV ?_ | with_reducible refine w_or ?_ | with_reducible refine w_zip ?_ | with_reducible refine w_get ?_ | ((with_reducible refine' w_isD ?e ?_); (case e => rfl)) | ((with_reducible refine peI ?e ?_); (case e => exact ⟨_, rfl⟩)) | with_reducible refine w_range1 ?_ | with_reducible refine w_pairs1 ?_ | with_reducible refine s_par ?_ | with_reducible refine s_while ?_ | with_reducible refine s_put ?_ | with_reducible refine s_tup ?_ | with_reducible refine s_raise ?_ | with_reducible refine s_try ?_ | with_reducible refine s_retN ?_ | with_reducible refine s_bk ?_ | with_reducible refine s_ct ?_ | with_reducible refine w_chain ?_ | with_reducible refine w_and ?_ | with_reducible refine w_bl ?_ | with_reducible refine w_orV ?_ | with_reducible refine w_lstS ?_ | with_reducible refine w_callK ?_ | with_reducible refine w_meth1 ?_ | with_reducible refine w_enum ?_ | with_reducible refine w_opt ?_ | with_reducible refine w_range2 ?_ | with_reducible refine s_forD ?_ | with_reducible refine w_compD ?_ | ((with_reducible refine' w_isT ?e ?k ?_); (case e => rfl); (case k => rfl)) | ((with_reducible refine' w_ex ?e ?e2 ?_); (case e => rfl); (case e2 => rfl)) | ((with_reducible refine ltI ?e ?_); (case e => exact Nat.le_of_ble_eq_true rfl)))))
local macro_rules | `(tactic| walk_at "mi w") => `(tactic| (repeat (first | ((with_reducible refine' putI ?e ?_); (case e => ((try dsimp only [List.set_cons_zero, List.set_cons_succ, slOf_f, slOf_t, wipeF, backF, Tg.put, putAll, List.getElem?_cons_zero, List.getElem?_cons_succ, Option.getD_some]); (try rfl)))) | ((with_reducible refine' OW.some ?e ?_); (case e => rfl)) | with_reducible refine w_ope ?_ | with_reducible refine w_c ?_ | with_reducible refine w_fz ?_ | with_reducible refine w_all1 ?_ | ((with_reducible refine' w_ops ?e ?_); (case e => rfl)) | ((with_reducible refine' w_at2 ?e1 ?e2 ?_); (case e1 => rfl); (case e2 => rfl)) | with_reducible refine w_bin ?_ | ((with_reducible refine' w_at1 ?e ?_); (case e => rfl)) | with_reducible refine w_all0 ?_ | with_reducible refine w_un ?_ | ((with_reducible refine lenI ?e ?_); (case e => exact Nat.le_of_ble_eq_true rfl)) | ((with_reducible refine ite_F ?e ?_); (case e => rfl)) | ((with_reducible refine' w_var ?e ?_); (case e => rfl)) | with_reducible refine w_tup ?_ | ((with_reducible refine ite_T ?e ?_); (case e => rfl)) | with_reducible refine w_call ?_ | with_reducible refine w_truth ?_ | ((with_reducible refine' setI ?e ?_); (case e => ((try dsimp only [List.set_cons_zero, List.set_cons_succ, slOf_f, slOf_t, wipeF, backF, Tg.put, putAll, List.getElem?_cons_zero, List.getElem?_cons_succ, Option.getD_some]); (try rfl)))) | with_reducible refine w_ife ?_ | with_reducible refine w_vl ?_ | with_reducible refine w_lst ?_ | with_reducible refine w_iter ?_ | with_reducible refine w_andV ?_ | ((with_reducible refine' w_mut ?e ?eL ?_); (case e => rfl); (case eL => rfl)) | with_reducible refine w_cut ?_ | with_reducible refine w_part ?_ | with_reducible refine w_nopart ?_ | with_reducible refine w_mcomp ?_ | with_reducible refine w_pure ?_ | with_reducible refine w_not ?_ | ((with_reducible refine' w_varO ?e ?_); (case e => rfl)) | with_reducible refine w_dct ?_ | with_reducible refine w_pairs0 ?_ | ((with_reducible refine kvsI ?e ?_); (case e => exact Nat.le_of_ble_eq_true rfl)) | with_reducible refine w_notV ?_ | with_reducible refine w_or ?_ | with_reducible refine w_zip ?_ | with_reducible refine w_get ?_ | ((with_reducible refine' w_isD ?e ?_); (case e => rfl)) | ((with_reducible refine peI ?e ?_); (case e => exact ⟨_, rfl⟩)) | with_reducible refine w_range1 ?_ | with_reducible refine w_pairs1 ?_ | with_reducible refine w_chain ?_ | with_reducible refine w_and ?_ | with_reducible refine w_bl ?_ | with_reducible refine w_orV ?_ | with_reducible refine w_lstS ?_ | with_reducible refine w_callK ?_ | with_reducible refine w_meth1 ?_ | with_reducible refine w_enum ?_ | with_reducible refine w_opt ?_ | with_reducible refine w_range2 ?_ | with_reducible refine w_compD ?_ | ((with_reducible refine' w_isT ?e ?k ?_); (case e => rfl); (case k => rfl)) | ((with_reducible refine' w_ex ?e ?e2 ?_); (case e => rfl); (case e2 => rfl)) | ((with_reducible refine ltI ?e ?_); (case e => exact Nat.le_of_ble_eq_true rfl)))))
section
variable {n : Nat} {lam : Store → CR} {S : Store} {Q : D → Bool → Store → Prop} {E : Nat → List (Tx × D) → Store → Prop}
inductive Op8 where
  | dv | rm | ad | sb | ml | lt | le | eq
def opT : Op8 → Tx
  | .dv => txs "/"
  | .rm => txs "~"
  | .ad => txs "+"
  | .sb => txs "-"
  | .ml => txs "*"
  | .lt => txs "<"
  | .le => txs "<="
  | .eq => txs "="
def absI (u : Int) : Int := if u < 0 then -u else u
def quoI (u v : Int) : Int := if decide (u < 0) = decide (v < 0) then absI u / absI v else -(absI u / absI v)
def bI (b : Bool) : Int := if b = true then 1 else 0
def joinI : Op8 → Int → Int → Option Int
  | .dv, u, v => if v = 0 then none else some (quoI u v)
  | .rm, u, v => if v = 0 then none else some (u - v * quoI u v)
  | .ad, u, v => some (u + v)
  | .sb, u, v => some (u - v)
  | .ml, u, v => some (u * v)
  | .lt, u, v => some (bI (decide (u < v)))
  | .le, u, v => some (bI (decide (u ≤ v)))
  | .eq, u, v => some (bI (decide (u = v)))
theorem joinI_dv (u v : Int) : joinI .dv u v = if v = 0 then none else some (quoI u v) := rfl
theorem joinI_rm (u v : Int) : joinI .rm u v = if v = 0 then none else some (u - v * quoI u v) := rfl
theorem absI_nat (u : Int) : absI u = (u.natAbs : Int) := by unfold absI; split <;> omega
theorem quoI_abs (u v : Int) : (quoI u v).natAbs = u.natAbs / v.natAbs := by
  have e : (absI u / absI v).natAbs = u.natAbs / v.natAbs := by
    rw [absI_nat, absI_nat]
    exact Int.natAbs_natCast _
  unfold quoI
  split
  · exact e
  · rw [Int.natAbs_neg]; exact e
theorem quoI_le (u v : Int) : (quoI u v).natAbs ≤ u.natAbs := by rw [quoI_abs]; exact Nat.div_le_self _ _
theorem vquo_le (u v : Int) : (v * quoI u v).natAbs ≤ u.natAbs := by
  rw [Int.natAbs_mul, quoI_abs]
  exact Nat.mul_div_le _ _
theorem okDiv_abs {v : Int} (h0 : v ≠ 0) {k : Nat} (hk : k ≤ 8000) (hb : v.natAbs < 2 ^ k) : okDiv (absI v) = true := by
  unfold okDiv
  have h1 : 0 < absI v := by rw [absI_nat]; omega
  have h2 : (absI v).natAbs.log2 < 9000 := by
    rw [absI_nat, Int.natAbs_natCast]
    have hne : v.natAbs ≠ 0 := by omega
    have := (Nat.log2_lt hne).mpr hb
    omega
  rw [decide_eq_true h1, decide_eq_true h2]
  simp
theorem p_quotient (hn : 1 ≤ n) {u v : Int} {k : Nat} (hk : k ≤ 8000) (hv : v ≠ 0) (hb : v.natAbs < 2 ^ k) (h : Q (.int (quoI u v)) false S) : CW (callM bd n 8 [.val (.int u), .val (.int v)] lam S) Q E := by
  obtain ⟨m, rfl⟩ : ∃ m, n = m + 1 := ⟨n - 1, by omega⟩; refine w_quotient ?_; unfold m_quotient
  walk_at "mi go"
  refine OW.some (if_pos (okDiv_abs hv hk hb)) ?_
  walk_at "mi go"
  refine ite_i (fun hc => ?_) (fun hc => ?_)
  · walk_at "mi go"
    unfold quoI at h
    rw [if_pos (of_decide_eq_true hc)] at h
    exact h
  · walk_at "mi go"
    unfold quoI at h
    rw [if_neg (of_decide_eq_false hc)] at h
    exact h
theorem p_joined (hn : 2 ≤ n) {o : Op8} {u v : Int} {k : Nat} (hk : k ≤ 8000) (hu : u.natAbs < 2 ^ k) (hb : v.natAbs < 2 ^ k) (h : Q (numD (joinI o u v)) false S) : CW (callM bd n 9 [.val (.str (opT o)), .val (.int u), .val (.int v)] lam S) Q E := by
  obtain ⟨m, rfl⟩ : ∃ m, n = m + 1 := ⟨n - 1, by omega⟩; refine w_joined ?_; unfold m_joined
  cases o
  case dv =>
    walk_at "mi go"
    refine ite_i (fun hc => ?_) (fun hc => ?_)
    · walk_at "mi go"
      rw [joinI_dv] at h
      rw [if_pos (of_decide_eq_true hc)] at h
      exact h
    · have hv := of_decide_eq_false hc
      rw [joinI_dv] at h
      rw [if_neg hv] at h
      walk_at "mi go"
      refine p_quotient (by omega) hk hv hb ?_
      exact h
  case rm =>
    walk_at "mi go"
    refine ite_i (fun hc => ?_) (fun hc => ?_)
    · walk_at "mi go"
      rw [joinI_rm] at h
      rw [if_pos (of_decide_eq_true hc)] at h
      exact h
    · have hv := of_decide_eq_false hc
      rw [joinI_rm] at h
      rw [if_neg hv] at h
      walk_at "mi go"
      refine p_quotient (by omega) hk hv hb ?_
      walk_at "mi go"
      refine OW.some (if_pos (okMul_b k (by omega) hb (Nat.lt_of_le_of_lt (quoI_le u v) hu))) ?_
      walk_at "mi go"
      exact h
  case ml =>
    walk_at "mi go"
    refine OW.some (if_pos (okMul_b k (by omega) hu hb)) ?_
    exact h
  all_goals
    walk_at "mi go"
    exact h
inductive Rs where
  | num (v : Int) | ref (d : D)
def rsD : Rs → D
  | .num v => .tup [.str (txs "number"), .int v]
  | .ref d => .tup [.str (txs "refused"), d]
def nought : D := .tup [.str (txs "nought")]
def joinR (o : Op8) (u v : Int) : Rs := match joinI o u v with
  | some w => .num w
  | none => .ref nought
theorem p_parted (hn : 1 ≤ n) {o : Op8} (ho : o = .dv ∨ o = .rm) {u v : Int} {k : Nat} (hk : k ≤ 8000) (hu : u.natAbs < 2 ^ k) (hb : v.natAbs < 2 ^ k) (h : Q (rsD (joinR o u v)) false S) : CW (callM bd n 23 [.val (.str (opT o)), .val (.int u), .val (.int v)] lam S) Q E := by
  obtain ⟨m, rfl⟩ : ∃ m, n = m + 1 := ⟨n - 1, by omega⟩; refine w__law_parted ?_; unfold m__law_parted
  have key : v ≠ 0 → (decide (decide (u < 0) = decide (v < 0)) = true → quoI u v = absI u / absI v) ∧ (decide (decide (u < 0) = decide (v < 0)) = false → quoI u v = 0 - absI u / absI v) := by
    intro hv
    refine ⟨fun hc => ?_, fun hc => ?_⟩
    · unfold quoI
      rw [if_pos (of_decide_eq_true hc)]
    · unfold quoI
      rw [if_neg (of_decide_eq_false hc), Int.zero_sub]
  rcases ho with rfl | rfl
  · walk_at "mi go"
    refine ite_i (fun hc => ?_) (fun hc => ?_)
    · walk_at "mi go"
      unfold joinR at h
      rw [joinI_dv] at h
      rw [if_pos (of_decide_eq_true hc)] at h
      exact h
    · have hv := of_decide_eq_false hc
      unfold joinR at h
      rw [joinI_dv] at h
      rw [if_neg hv] at h
      obtain ⟨k1, k2⟩ := key hv
      walk_at "mi go"
      refine OW.some (if_pos (okDiv_abs hv hk hb)) ?_
      walk_at "mi go"
      refine ite_i (fun hc => ?_) (fun hc => ?_)
      · rw [k1 hc] at h
        walk_at "mi go"
        exact h
      · rw [k2 hc] at h
        walk_at "mi go"
        exact h
  · walk_at "mi go"
    refine ite_i (fun hc => ?_) (fun hc => ?_)
    · walk_at "mi go"
      unfold joinR at h
      rw [joinI_rm] at h
      rw [if_pos (of_decide_eq_true hc)] at h
      exact h
    · have hv := of_decide_eq_false hc
      unfold joinR at h
      rw [joinI_rm] at h
      rw [if_neg hv] at h
      obtain ⟨k1, k2⟩ := key hv
      have hq := Nat.lt_of_le_of_lt (quoI_le u v) hu
      rw [Int.mul_comm] at h
      walk_at "mi go"
      refine OW.some (if_pos (okDiv_abs hv hk hb)) ?_
      walk_at "mi go"
      refine ite_i (fun hc => ?_) (fun hc => ?_)
      · rw [k1 hc] at h hq
        walk_at "mi go"
        refine OW.some (if_pos (okMul_b k (by omega) hq hb)) ?_
        walk_at "mi go"
        exact h
      · rw [k2 hc] at h hq
        walk_at "mi go"
        refine OW.some (if_pos (okMul_b k (by omega) hq hb)) ?_
        walk_at "mi go"
        exact h

end
end Gx
set_option Elab.async false
set_option linter.all false
set_option maxRecDepth 100000
set_option maxHeartbeats 1000000
namespace Gx
open PySem Mi
local macro_rules | `(tactic| walk_at "mi go") => `(tactic| (repeat (first | ((with_reducible refine' putI ?e ?_); (case e => ((try dsimp only [List.set_cons_zero, List.set_cons_succ, slOf_f, slOf_t, wipeF, backF, Tg.put, putAll, List.getElem?_cons_zero, List.getElem?_cons_succ, Option.getD_some]); (try rfl)))) | ((with_reducible refine' OW.some ?e ?_); (case e => rfl)) | with_reducible refine w_ope ?_ | with_reducible refine w_c ?_ | with_reducible refine w_fz ?_ | with_reducible refine w_all1 ?_ | ((with_reducible refine' w_ops ?e ?_); (case e => rfl)) | ((with_reducible refine' w_at2 ?e1 ?e2 ?_); (case e1 => rfl); (case e2 => rfl)) | with_reducible refine w_bin ?_ | ((with_reducible refine' w_at1 ?e ?_); (case e => rfl)) | with_reducible refine w_all0 ?_ | with_reducible refine s_seq ?_ | with_reducible refine w_un ?_ | with_reducible refine s_if ?_ | ((with_reducible refine lenI ?e ?_); (case e => exact Nat.le_of_ble_eq_true rfl)) | ((with_reducible refine ite_F ?e ?_); (case e => rfl)) | ((with_reducible refine' w_var ?e ?_); (case e => rfl)) | with_reducible refine s_nx ?_ | with_reducible refine w_tup ?_ | ((with_reducible refine ite_T ?e ?_); (case e => rfl)) | with_reducible refine s_ret ?_ | with_reducible refine w_call ?_ | with_reducible refine w_truth ?_ | ((with_reducible refine' setI ?e ?_); (case e => ((try dsimp only [List.set_cons_zero, List.set_cons_succ, slOf_f, slOf_t, wipeF, backF, Tg.put, putAll, List.getElem?_cons_zero, List.getElem?_cons_succ, Option.getD_some]); (try rfl)))) | with_reducible refine w_ife ?_ | with_reducible refine s_set ?_ | with_reducible refine w_vl ?_ | with_reducible refine w_lst ?_ | with_reducible refine w_iter ?_ | with_reducible refine w_andV ?_ | ((with_reducible refine' s_retV ?e ?_); (case e => rfl)) | with_reducible refine s_for ?_ | ((with_reducible refine' w_mut ?e ?eL ?_); (case e => rfl); (case eL => rfl)) | with_reducible refine s_drop ?_ | with_reducible refine w_cut ?_ | with_reducible refine w_part ?_ | with_reducible refine w_nopart ?_ | with_reducible refine w_mcomp ?_ | with_reducible refine w_pure ?_ | with_reducible refine w_not ?_ | ((with_reducible refine' w_varO ?e ?_); (case e => rfl)) | with_reducible refine w_dct ?_ | with_reducible refine w_pairs0 ?_ | ((with_reducible refine kvsI ?e ?_); (case e => exact Nat.le_of_ble_eq_true rfl)) | ((with_reducible refine' s_retO ?e ?_); (case e => rfl)) | with_reducible refine w_notV ?_ | with_reducible refine w_or ?_ | with_reducible refine w_zip ?_ | with_reducible refine w_get ?_ | ((with_reducible refine' w_isD ?e ?_); (case e => rfl)) | ((with_reducible refine peI ?e ?_); (case e => exact ⟨_, rfl⟩)) | with_reducible refine w_range1 ?_ | with_reducible refine w_pairs1 ?_ | with_reducible refine s_par ?_ | with_reducible refine s_while ?_ | with_reducible refine s_put ?_ | with_reducible refine s_tup ?_ | with_reducible refine s_raise ?_ | with_reducible refine s_try ?_ | with_reducible refine s_retN ?_ | with_reducible refine s_bk ?_ | with_reducible refine s_ct ?_ | with_reducible refine w_chain ?_ | with_reducible refine w_and ?_ | with_reducible refine w_bl ?_ | with_reducible refine w_orV ?_ | with_reducible refine w_lstS ?_ | with_reducible refine w_callK ?_ | with_reducible refine w_meth1 ?_ | with_reducible refine w_enum ?_ | with_reducible refine w_opt ?_ | with_reducible refine w_range2 ?_ | with_reducible refine s_forD ?_ | with_reducible refine w_compD ?_ | ((with_reducible refine' w_isT ?e ?k ?_); (case e => rfl); (case k => rfl)) | ((with_reducible refine' w_ex ?e ?e2 ?_); (case e => rfl); (case e2 => rfl)) | ((with_reducible refine ltI ?e ?_); (case e => exact Nat.le_of_ble_eq_true rfl)))))
local macro_rules | `(tactic| walk_at "mi w") => `(tactic| (repeat (first | ((with_reducible refine' putI ?e ?_); (case e => ((try dsimp only [List.set_cons_zero, List.set_cons_succ, slOf_f, slOf_t, wipeF, backF, Tg.put, putAll, List.getElem?_cons_zero, List.getElem?_cons_succ, Option.getD_some]); (try rfl)))) | ((with_reducible refine' OW.some ?e ?_); (case e => rfl)) | with_reducible refine w_ope ?_ | with_reducible refine w_c ?_ | with_reducible refine w_fz ?_ | with_reducible refine w_all1 ?_ | ((with_reducible refine' w_ops ?e ?_); (case e => rfl)) | ((with_reducible refine' w_at2 ?e1 ?e2 ?_); (case e1 => rfl); (case e2 => rfl)) | with_reducible refine w_bin ?_ | ((with_reducible refine' w_at1 ?e ?_); (case e => rfl)) | with_reducible refine w_all0 ?_ | with_reducible refine w_un ?_ | ((with_reducible refine lenI ?e ?_); (case e => exact Nat.le_of_ble_eq_true rfl)) | ((with_reducible refine ite_F ?e ?_); (case e => rfl)) | ((with_reducible refine' w_var ?e ?_); (case e => rfl)) | with_reducible refine w_tup ?_ | ((with_reducible refine ite_T ?e ?_); (case e => rfl)) | with_reducible refine w_call ?_ | with_reducible refine w_truth ?_ | ((with_reducible refine' setI ?e ?_); (case e => ((try dsimp only [List.set_cons_zero, List.set_cons_succ, slOf_f, slOf_t, wipeF, backF, Tg.put, putAll, List.getElem?_cons_zero, List.getElem?_cons_succ, Option.getD_some]); (try rfl)))) | with_reducible refine w_ife ?_ | with_reducible refine w_vl ?_ | with_reducible refine w_lst ?_ | with_reducible refine w_iter ?_ | with_reducible refine w_andV ?_ | ((with_reducible refine' w_mut ?e ?eL ?_); (case e => rfl); (case eL => rfl)) | with_reducible refine w_cut ?_ | with_reducible refine w_part ?_ | with_reducible refine w_nopart ?_ | with_reducible refine w_mcomp ?_ | with_reducible refine w_pure ?_ | with_reducible refine w_not ?_ | ((with_reducible refine' w_varO ?e ?_); (case e => rfl)) | with_reducible refine w_dct ?_ | with_reducible refine w_pairs0 ?_ | ((with_reducible refine kvsI ?e ?_); (case e => exact Nat.le_of_ble_eq_true rfl)) | with_reducible refine w_notV ?_ | with_reducible refine w_or ?_ | with_reducible refine w_zip ?_ | with_reducible refine w_get ?_ | ((with_reducible refine' w_isD ?e ?_); (case e => rfl)) | ((with_reducible refine peI ?e ?_); (case e => exact ⟨_, rfl⟩)) | with_reducible refine w_range1 ?_ | with_reducible refine w_pairs1 ?_ | with_reducible refine w_chain ?_ | with_reducible refine w_and ?_ | with_reducible refine w_bl ?_ | with_reducible refine w_orV ?_ | with_reducible refine w_lstS ?_ | with_reducible refine w_callK ?_ | with_reducible refine w_meth1 ?_ | with_reducible refine w_enum ?_ | with_reducible refine w_opt ?_ | with_reducible refine w_range2 ?_ | with_reducible refine w_compD ?_ | ((with_reducible refine' w_isT ?e ?k ?_); (case e => rfl); (case k => rfl)) | ((with_reducible refine' w_ex ?e ?e2 ?_); (case e => rfl); (case e2 => rfl)) | ((with_reducible refine ltI ?e ?_); (case e => exact Nat.le_of_ble_eq_true rfl)))))
section
variable {n : Nat} {lam : Store → CR} {S : Store} {Q : D → Bool → Store → Prop} {E : Nat → List (Tx × D) → Store → Prop}
inductive Sm where
  | num (k : Int) | nam (x : Tx) | les (a : Sm) | bin (o : Op8) (a b : Sm)
inductive SD : Sm → D → Prop
  | num {k : Int} {d : D} : sqOf d = some [.str (txs "number"), .int k] → SD (.num k) d
  | nam {x : Tx} {d : D} : sqOf d = some [.str (txs "name"), .str x] → SD (.nam x) d
  | les {a : Sm} {d e : D} : sqOf d = some [.str (txs "less"), e] → SD a e → SD (.les a) d
  | bin {o : Op8} {a b : Sm} {d e f : D} : sqOf d = some [.str (opT o), e, f] → SD a e → SD b f → SD (.bin o a b) d
def wfS : Sm → Prop
  | .num k => 0 ≤ k ∧ k < 1000000000
  | .nam x => nameT x = true ∧ x.length ≤ 20
  | .les a => wfS a
  | .bin _ a b => wfS a ∧ wfS b
def htS : Sm → Nat
  | .num _ => 0
  | .nam _ => 0
  | .les a => htS a + 1
  | .bin _ a b => max (htS a) (htS b) + 1
theorem SD.pl {s : Sm} {d : D} (h : SD s d) : dPl d = true := by
  induction h with
  | num h =>
    rcases sq_cases h with rfl | rfl <;> rfl
  | nam h =>
    rcases sq_cases h with rfl | rfl <;> rfl
  | les h _ ih =>
    rcases sq_cases h with rfl | rfl <;> (simp only [dPl, dPls, ih]; rfl)
  | bin h _ _ ih1 ih2 =>
    rcases sq_cases h with rfl | rfl <;> (simp only [dPl, dPls, ih1, ih2]; rfl)
theorem opNe (o : Op8) : opT o ≠ txs "number" ∧ opT o ≠ txs "name" ∧ opT o ≠ txs "less" := by cases o <;> decide
theorem opIn (o : Op8) : (cmpOp .In S (.str (opT o)) k_SIGNS_OF_TWO).map D.bl = some (.bl true) := by cases o <;> rfl
theorem p_is_sum {s : Sm} {d : D} (hs : SD s d) : ∀ {n : Nat} {lam : Store → CR} {S : Store} {Q : D → Bool → Store → Prop} {E : Nat → List (Tx × D) → Store → Prop}, wfS s → htS s + 3 ≤ n → Q (.bl true) false S → CW (callM bd n 5 [.val d] lam S) Q E := by
  induction hs with
  | @num k d hd =>
    intro n lam S Q E hw hn h
    have hp := (SD.num hd).pl
    have hdd := hd
    obtain ⟨m, rfl⟩ : ∃ m, n = m + 1 := ⟨n - 1, by omega⟩; refine w_is_sum ?_; unfold m_is_sum
    rcases sq_cases hd with rfl | rfl
    all_goals
      walk_at "mi go"
      refine p_is_list (by omega) hp ?_
      walk_at "mi go"
      refine p_is_integer (by omega) rfl ?_
      walk_at "mi go"
      refine ite_T (decide_eq_true hw.1) ?_
      walk_at "mi go"
      rw [decide_eq_true (show k < 10 ^ (9 : Int).toNat from hw.2)]
      exact h
  | @nam x d hd =>
    intro n lam S Q E hw hn h
    have hp := (SD.nam hd).pl
    have hl : x.length ≤ LIM := by have := hw.2; show _ ≤ 16777216; omega
    obtain ⟨m, rfl⟩ : ∃ m, n = m + 1 := ⟨n - 1, by omega⟩; refine w_is_sum ?_; unfold m_is_sum
    rcases sq_cases hd with rfl | rfl
    all_goals
      walk_at "mi go"
      refine p_is_list (by omega) hp ?_
      walk_at "mi go"
      refine p_is_nameT (by omega) hl ?_
      rw [hw.1]
      exact h
  | @les a d e hd ha ih =>
    intro n lam S Q E hw hn h
    have hp := (SD.les hd ha).pl
    obtain ⟨m, rfl⟩ : ∃ m, n = m + 1 := ⟨n - 1, by omega⟩; refine w_is_sum ?_; unfold m_is_sum
    have hw' : wfS a := hw
    have hn' : htS a + 1 + 3 ≤ m + 1 := hn
    rcases sq_cases hd with rfl | rfl
    all_goals
      walk_at "mi go"
      refine p_is_list (by omega) hp ?_
      walk_at "mi go"
      refine ih hw' (by omega) ?_
      exact h
  | @bin o a b d e f hd ha hb ih1 ih2 =>
    intro n lam S Q E hw hn h
    have hp := (SD.bin hd ha hb).pl
    have hw1 : wfS a := hw.1
    have hw2 : wfS b := hw.2
    obtain ⟨m, rfl⟩ : ∃ m, n = m + 1 := ⟨n - 1, by omega⟩; refine w_is_sum ?_; unfold m_is_sum
    have hn' : max (htS a) (htS b) + 1 + 3 ≤ m + 1 := hn
    rcases sq_cases hd with rfl | rfl
    all_goals
      walk_at "mi go"
      refine p_is_list (by omega) hp ?_
      walk_at "mi go"
      refine ite_F (decide_eq_false (opNe o).1) ?_
      walk_at "mi go"
      refine ite_F (decide_eq_false (opNe o).2.1) ?_
      walk_at "mi go"
      refine ite_F (decide_eq_false (opNe o).2.2) ?_
      walk_at "mi go"
      refine OW.some (opIn o) ?_
      walk_at "mi go"
      refine ih1 hw1 (by omega) ?_
      walk_at "mi go"
      refine ih2 hw2 (by omega) ?_
      exact h
/-- the text that stands for a name -/
def gT (kvs : List (Ky × D)) (x : Tx) : Tx := match valK kvs (.s x) with
  | some (.str t) => t
  | _ => []
def HeldOK (kvs : List (Ky × D)) : Prop := ∀ x d, valK kvs (.s x) = some d → ∃ t, d = .str t ∧ t.length ≤ 600 ∧ ∀ v, numT t = some v → v.natAbs < 2 ^ 32
theorem gT_get {kvs : List (Ky × D)} (hk : HeldOK kvs) (x : Tx) : getK (.str (txs "")) S (.dct kvs) (.str x) = some (.str (gT kvs x)) ∧ (gT kvs x).length ≤ 600 ∧ ∀ v, numT (gT kvs x) = some v → v.natAbs < 2 ^ 32 := by
  have e : getK (.str (txs "")) S (.dct kvs) (.str x) = some ((valK kvs (.s x)).getD (.str (txs ""))) := rfl
  rw [e]
  unfold gT
  cases q : valK kvs (.s x) with
  | none =>
    refine ⟨rfl, Nat.zero_le _, fun v hv => ?_⟩
    have hv' : some (0 : Int) = some v := hv
    cases hv'
    decide
  | some d =>
    obtain ⟨t, rfl, h1, h2⟩ := hk x d q
    exact ⟨rfl, h1, h2⟩
def valS (g : Tx → Option Int) : Sm → Rs
  | .num k => .num k
  | .nam x => match g x with
    | some v => .num v
    | none => .ref (.tup [.str (txs "number"), .str x])
  | .les a => match valS g a with
    | .num v => .num (-v)
    | .ref d => .ref d
  | .bin o a b => match valS g a with
    | .ref d => .ref d
    | .num u => match valS g b with
      | .ref d => .ref d
      | .num v => joinR o u v
def Ebd (h : Nat) : Nat := 33 * 2 ^ h
theorem Ebd_succ (h : Nat) : Ebd (h + 1) = 2 * Ebd h := by unfold Ebd; rw [Nat.pow_succ]; omega
theorem Ebd_pos (h : Nat) : 33 ≤ Ebd h := by unfold Ebd; have := Nat.one_le_two_pow (n := h); omega
theorem Ebd_mono {a b : Nat} (h : a ≤ b) : Ebd a ≤ Ebd b := by unfold Ebd; have := Nat.pow_le_pow_right (show 0 < 2 by decide) h; omega
theorem join_bd {o : Op8} {u v w : Int} {k : Nat} (hk : 33 ≤ k) (hu : u.natAbs < 2 ^ k) (hv : v.natAbs < 2 ^ k) (h : joinI o u v = some w) : w.natAbs < 2 ^ (2 * k) := by
  have e : 2 ^ (2 * k) = 2 ^ k * 2 ^ k := by rw [← Nat.pow_add]; congr 1; omega
  have big : 4 * 2 ^ k ≤ 2 ^ k * 2 ^ k := Nat.mul_le_mul_right _ (by have := Nat.pow_le_pow_right (show 0 < 2 by decide) hk; have : (2:Nat) ^ 33 = 8589934592 := by decide
                                                                     omega)
  have q1 := quoI_le u v
  have q2 := vquo_le u v
  rw [e]
  cases o with
  | dv =>
    rw [joinI_dv] at h
    split at h
    · cases h
    · cases h; omega
  | rm =>
    rw [joinI_rm] at h
    split at h
    · cases h
    · cases h; omega
  | ad => cases h; omega
  | sb => cases h; omega
  | ml =>
    cases h
    rw [Int.natAbs_mul]
    exact Nat.mul_lt_mul_of_lt_of_le hu (Nat.le_of_lt hv) (by omega)
  | lt =>
    cases h
    have : (bI (decide (u < v))).natAbs ≤ 1 := by unfold bI; split <;> decide
    omega
  | le =>
    cases h
    have : (bI (decide (u ≤ v))).natAbs ≤ 1 := by unfold bI; split <;> decide
    omega
  | eq =>
    cases h
    have : (bI (decide (u = v))).natAbs ≤ 1 := by unfold bI; split <;> decide
    omega
theorem val_bd {g : Tx → Option Int} (hg : ∀ x v, g x = some v → v.natAbs < 2 ^ 32) : ∀ {s : Sm} {v : Int}, wfS s → valS g s = .num v → v.natAbs < 2 ^ Ebd (htS s)
  | .num k, v, hw, h => by
    cases h
    have h1 := hw.1
    have h2 := hw.2
    have : (2:Nat) ^ Ebd (htS (.num k)) = 8589934592 := by show (2:Nat) ^ Ebd 0 = _; decide
    omega
  | .nam x, v, hw, h => by
    unfold valS at h
    cases q : g x with
    | none => rw [q] at h; cases h
    | some u =>
      rw [q] at h
      cases h
      have h1 := hg x _ q
      have e : (2:Nat) ^ Ebd (htS (.nam x)) = 8589934592 := by show (2:Nat) ^ Ebd 0 = _; decide
      have e2 : (2:Nat) ^ 32 = 4294967296 := by decide
      omega
  | .les a, v, hw, h => by
    unfold valS at h
    cases q : valS g a with
    | ref d => rw [q] at h; cases h
    | num u =>
      rw [q] at h
      cases h
      have := val_bd hg (s := a) hw q
      rw [Int.natAbs_neg]
      exact Nat.lt_of_lt_of_le this (Nat.pow_le_pow_right (by decide) (Ebd_mono (Nat.le_succ _)))
  | .bin o a b, v, hw, h => by
    unfold valS at h
    cases q : valS g a with
    | ref d => rw [q] at h; cases h
    | num u =>
      cases q2 : valS g b with
      | ref d => rw [q, q2] at h; cases h
      | num w =>
        rw [q, q2] at h
        dsimp only at h
        unfold joinR at h
        cases q3 : joinI o u w with
        | none => rw [q3] at h; cases h
        | some z =>
          rw [q3] at h
          cases h
          have b1 := Nat.lt_of_lt_of_le (val_bd hg (s := a) hw.1 q) (Nat.pow_le_pow_right (by decide) (Ebd_mono (Nat.le_max_left (htS a) (htS b))))
          have b2 := Nat.lt_of_lt_of_le (val_bd hg (s := b) hw.2 q2) (Nat.pow_le_pow_right (by decide) (Ebd_mono (Nat.le_max_right (htS a) (htS b))))
          have := join_bd (Ebd_pos _) b1 b2 q3
          rw [show htS (.bin o a b) = max (htS a) (htS b) + 1 from rfl, Ebd_succ]
          exact this

end
end Gx
set_option Elab.async false
set_option linter.all false
set_option maxRecDepth 100000
set_option maxHeartbeats 1000000
namespace Gx
open PySem Mi
local macro_rules | `(tactic| walk_at "mi go") => `(tactic| (repeat (first | ((with_reducible refine' putI ?e ?_); (case e => ((try dsimp only [List.set_cons_zero, List.set_cons_succ, slOf_f, slOf_t, wipeF, backF, Tg.put, putAll, List.getElem?_cons_zero, List.getElem?_cons_succ, Option.getD_some]); (try rfl)))) | ((with_reducible refine' OW.some ?e ?_); (case e => rfl)) | with_reducible refine w_ope ?_ | with_reducible refine w_c ?_ | with_reducible refine w_fz ?_ | with_reducible refine w_all1 ?_ | ((with_reducible refine' w_ops ?e ?_); (case e => rfl)) | ((with_reducible refine' w_at2 ?e1 ?e2 ?_); (case e1 => rfl); (case e2 => rfl)) | with_reducible refine w_bin ?_ | ((with_reducible refine' w_at1 ?e ?_); (case e => rfl)) | with_reducible refine w_all0 ?_ | with_reducible refine s_seq ?_ | with_reducible refine w_un ?_ | with_reducible refine s_if ?_ | ((with_reducible refine lenI ?e ?_); (case e => exact Nat.le_of_ble_eq_true rfl)) | ((with_reducible refine ite_F ?e ?_); (case e => rfl)) | ((with_reducible refine' w_var ?e ?_); (case e => rfl)) | with_reducible refine s_nx ?_ | with_reducible refine w_tup ?_ | ((with_reducible refine ite_T ?e ?_); (case e => rfl)) | with_reducible refine s_ret ?_ | with_reducible refine w_call ?_ | with_reducible refine w_truth ?_ | ((with_reducible refine' setI ?e ?_); (case e => ((try dsimp only [List.set_cons_zero, List.set_cons_succ, slOf_f, slOf_t, wipeF, backF, Tg.put, putAll, List.getElem?_cons_zero, List.getElem?_cons_succ, Option.getD_some]); (try rfl)))) | with_reducible refine w_ife ?_ | with_reducible refine s_set ?_ | with_reducible refine w_vl ?_ | with_reducible refine w_lst ?_ | with_reducible refine w_iter ?_ | with_reducible refine w_andV ?_ | ((with_reducible refine' s_retV ?e ?_); (case e => rfl)) | with_reducible refine s_for ?_ | ((with_reducible refine' w_mut ?e ?eL ?_); (case e => rfl); (case eL => rfl)) | with_reducible refine s_drop ?_ | with_reducible refine w_cut ?_ | with_reducible refine w_part ?_ | with_reducible refine w_nopart ?_ | with_reducible refine w_mcomp ?_ | with_reducible refine w_pure ?_ | with_reducible refine w_not ?_ | ((with_reducible refine' w_varO ?e ?_); (case e => rfl)) | with_reducible refine w_dct ?_ | with_reducible refine w_pairs0 ?_ | ((with_reducible refine kvsI ?e ?_); (case e => exact Nat.le_of_ble_eq_true rfl)) | ((with_reducible refine' s_retO ?e ?_); (case e => rfl)) | with_reducible refine w_notV ?_ | with_reducible refine w_or ?_ | with_reducible refine w_zip ?_ | with_reducible refine w_get ?_ | ((with_reducible refine' w_isD ?e ?_); (case e => rfl)) | ((with_reducible refine peI ?e ?_); (case e => exact ⟨_, rfl⟩)) | with_reducible refine w_range1 ?_ | with_reducible refine w_pairs1 ?_ | with_reducible refine s_par ?_ | with_reducible refine s_while ?_ | with_reducible refine s_put ?_ | with_reducible refine s_tup ?_ | with_reducible refine s_raise ?_ | with_reducible refine s_try ?_ | with_reducible refine s_retN ?_ | with_reducible refine s_bk ?_ | with_reducible refine s_ct ?_ | with_reducible refine w_chain ?_ | with_reducible refine w_and ?_ | with_reducible refine w_bl ?_ | with_reducible refine w_orV ?_ | with_reducible refine w_lstS ?_ | with_reducible refine w_callK ?_ | with_reducible refine w_meth1 ?_ | with_reducible refine w_enum ?_ | with_reducible refine w_opt ?_ | with_reducible refine w_range2 ?_ | with_reducible refine s_forD ?_ | with_reducible refine w_compD ?_ | ((with_reducible refine' w_isT ?e ?k ?_); (case e => rfl); (case k => rfl)) | ((with_reducible refine' w_ex ?e ?e2 ?_); (case e => rfl); (case e2 => rfl)) | ((with_reducible refine ltI ?e ?_); (case e => exact Nat.le_of_ble_eq_true rfl)))))
local macro_rules | `(tactic| walk_at "mi w") => `(tactic| (repeat (first | ((with_reducible refine' putI ?e ?_); (case e => ((try dsimp only [List.set_cons_zero, List.set_cons_succ, slOf_f, slOf_t, wipeF, backF, Tg.put, putAll, List.getElem?_cons_zero, List.getElem?_cons_succ, Option.getD_some]); (try rfl)))) | ((with_reducible refine' OW.some ?e ?_); (case e => rfl)) | with_reducible refine w_ope ?_ | with_reducible refine w_c ?_ | with_reducible refine w_fz ?_ | with_reducible refine w_all1 ?_ | ((with_reducible refine' w_ops ?e ?_); (case e => rfl)) | ((with_reducible refine' w_at2 ?e1 ?e2 ?_); (case e1 => rfl); (case e2 => rfl)) | with_reducible refine w_bin ?_ | ((with_reducible refine' w_at1 ?e ?_); (case e => rfl)) | with_reducible refine w_all0 ?_ | with_reducible refine w_un ?_ | ((with_reducible refine lenI ?e ?_); (case e => exact Nat.le_of_ble_eq_true rfl)) | ((with_reducible refine ite_F ?e ?_); (case e => rfl)) | ((with_reducible refine' w_var ?e ?_); (case e => rfl)) | with_reducible refine w_tup ?_ | ((with_reducible refine ite_T ?e ?_); (case e => rfl)) | with_reducible refine w_call ?_ | with_reducible refine w_truth ?_ | ((with_reducible refine' setI ?e ?_); (case e => ((try dsimp only [List.set_cons_zero, List.set_cons_succ, slOf_f, slOf_t, wipeF, backF, Tg.put, putAll, List.getElem?_cons_zero, List.getElem?_cons_succ, Option.getD_some]); (try rfl)))) | with_reducible refine w_ife ?_ | with_reducible refine w_vl ?_ | with_reducible refine w_lst ?_ | with_reducible refine w_iter ?_ | with_reducible refine w_andV ?_ | ((with_reducible refine' w_mut ?e ?eL ?_); (case e => rfl); (case eL => rfl)) | with_reducible refine w_cut ?_ | with_reducible refine w_part ?_ | with_reducible refine w_nopart ?_ | with_reducible refine w_mcomp ?_ | with_reducible refine w_pure ?_ | with_reducible refine w_not ?_ | ((with_reducible refine' w_varO ?e ?_); (case e => rfl)) | with_reducible refine w_dct ?_ | with_reducible refine w_pairs0 ?_ | ((with_reducible refine kvsI ?e ?_); (case e => exact Nat.le_of_ble_eq_true rfl)) | with_reducible refine w_notV ?_ | with_reducible refine w_or ?_ | with_reducible refine w_zip ?_ | with_reducible refine w_get ?_ | ((with_reducible refine' w_isD ?e ?_); (case e => rfl)) | ((with_reducible refine peI ?e ?_); (case e => exact ⟨_, rfl⟩)) | with_reducible refine w_range1 ?_ | with_reducible refine w_pairs1 ?_ | with_reducible refine w_chain ?_ | with_reducible refine w_and ?_ | with_reducible refine w_bl ?_ | with_reducible refine w_orV ?_ | with_reducible refine w_lstS ?_ | with_reducible refine w_callK ?_ | with_reducible refine w_meth1 ?_ | with_reducible refine w_enum ?_ | with_reducible refine w_opt ?_ | with_reducible refine w_range2 ?_ | with_reducible refine w_compD ?_ | ((with_reducible refine' w_isT ?e ?k ?_); (case e => rfl); (case k => rfl)) | ((with_reducible refine' w_ex ?e ?e2 ?_); (case e => rfl); (case e2 => rfl)) | ((with_reducible refine ltI ?e ?_); (case e => exact Nat.le_of_ble_eq_true rfl)))))
section
variable {n : Nat} {lam : Store → CR} {S : Store} {Q : D → Bool → Store → Prop} {E : Nat → List (Tx × D) → Store → Prop}
theorem valS_nam {g : Tx → Option Int} {x : Tx} : valS g (.nam x) = match g x with
    | some v => .num v
    | none => .ref (.tup [.str (txs "number"), .str x]) := rfl
theorem p_value {kvs : List (Ky × D)} (hk : HeldOK kvs) {s : Sm} {d : D} (hs : SD s d) : ∀ {n : Nat} {lam : Store → CR} {S : Store} {Q : D → Bool → Store → Prop} {E : Nat → List (Tx × D) → Store → Prop}, wfS s → htS s ≤ 5 → htS s + 4 ≤ n → (∀ b, Q (rsD (valS (fun x => numT (gT kvs x)) s)) b S) → CW (callM bd n 10 [.val d, .val (.dct kvs)] lam S) Q E := by
  have hg : ∀ x v, (fun x => numT (gT kvs x)) x = some v → v.natAbs < 2 ^ 32 := fun x v e => (gT_get (S := []) hk x).2.2 v e
  induction hs with
  | @num k d hd =>
    intro n lam S Q E hw h5 hn h
    obtain ⟨m, rfl⟩ : ∃ m, n = m + 1 := ⟨n - 1, by omega⟩; refine w_value_of_sum ?_; unfold m_value_of_sum
    rcases sq_cases hd with rfl | rfl
    all_goals
      walk_at "mi go"
      exact h _
  | @nam x d hd =>
    intro n lam S Q E hw h5 hn h
    obtain ⟨g1, g2, g3⟩ := gT_get (S := S) hk x
    have g1' : (valK kvs (.s x)).getD (.str (txs "")) = .str (gT kvs x) := Option.some.inj g1
    obtain ⟨m, rfl⟩ : ∃ m, n = m + 1 := ⟨n - 1, by omega⟩; refine w_value_of_sum ?_; unfold m_value_of_sum
    rcases sq_cases hd with rfl | rfl
    all_goals
      walk_at "mi go"
      rw [g1']
      refine p_number_in (by omega) g2 ?_
      cases q : numT (gT kvs x) with
      | none =>
        rw [valS_nam, q] at h
        walk_at "mi go"
        exact h _
      | some v =>
        rw [valS_nam, q] at h
        walk_at "mi go"
        exact h _
  | @les a d e hd ha ih =>
    intro n lam S Q E hw h5 hn h
    have hw' : wfS a := hw
    have h5' : htS a + 1 ≤ 5 := h5
    have hn' : htS a + 1 + 4 ≤ n := hn
    have tail : ∀ {d' : D} {m : Nat} {lam : Store → CR}, sqOf d' = some [.str (txs "less"), e] → htS a + 4 ≤ m → RW (opE (.e (mFz (mBin pIx (.s 0) (.e (mC (.int 0)))))) ⟨callM bd m, lam, m, loM bd m⟩ [] S) (fun _ _ _ => True) (fun _ _ _ _ => True) → True := fun _ _ _ => trivial
    obtain ⟨m, rfl⟩ : ∃ m, n = m + 1 := ⟨n - 1, by omega⟩; refine w_value_of_sum ?_; unfold m_value_of_sum
    rcases sq_cases hd with rfl | rfl
    all_goals
      walk_at "mi go"
      refine w_loop1 ?_
      walk_at "mi go"
      refine ih hw' (by omega) (by omega) fun b => ?_
      unfold valS at h
      cases q : valS (fun x => numT (gT kvs x)) a with
      | ref r =>
        rw [q] at h
        walk_at "mi go"
        exact h _
      | num u =>
        rw [q] at h
        walk_at "mi go"
        refine w_loop0 ?_
        walk_at "mi go"
        exact h _
  | @bin o a b d e f hd ha hb ih1 ih2 =>
    intro n lam S Q E hw h5 hn h
    have hw1 : wfS a := hw.1
    have hw2 : wfS b := hw.2
    have h5' : max (htS a) (htS b) + 1 ≤ 5 := h5
    have hn' : max (htS a) (htS b) + 1 + 4 ≤ n := hn
    obtain ⟨m, rfl⟩ : ∃ m, n = m + 1 := ⟨n - 1, by omega⟩; refine w_value_of_sum ?_; unfold m_value_of_sum
    rcases sq_cases hd with rfl | rfl
    all_goals
      walk_at "mi go"
      refine ite_F (decide_eq_false (opNe o).1) ?_
      walk_at "mi go"
      refine ite_F (decide_eq_false (opNe o).2.1) ?_
      walk_at "mi go"
      refine w_loop1 ?_
      walk_at "mi go"
      refine ih1 hw1 (by omega) (by omega) fun b1 => ?_
      unfold valS at h
      cases q : valS (fun x => numT (gT kvs x)) a with
      | ref r =>
        rw [q] at h
        walk_at "mi go"
        exact h _
      | num u =>
        rw [q] at h
        walk_at "mi go"
        refine w_loop1 ?_
        walk_at "mi go"
        refine ih2 hw2 (by omega) (by omega) fun b2 => ?_
        cases q2 : valS (fun x => numT (gT kvs x)) b with
        | ref r =>
          rw [q2] at h
          walk_at "mi go"
          exact h _
        | num v =>
          rw [q2] at h
          walk_at "mi go"
          refine w_loop0 ?_
          walk_at "mi go"
          refine ite_F (decide_eq_false (opNe o).2.2) ?_
          walk_at "mi go"
          have bu := Nat.lt_of_lt_of_le (val_bd hg hw1 q) (Nat.pow_le_pow_right (show 0 < 2 by decide) (show Ebd (htS a) ≤ 8000 from Nat.le_trans (Ebd_mono (show htS a ≤ 5 by omega)) (by decide)))
          have bv := Nat.lt_of_lt_of_le (val_bd hg hw2 q2) (Nat.pow_le_pow_right (show 0 < 2 by decide) (show Ebd (htS b) ≤ 8000 from Nat.le_trans (Ebd_mono (show htS b ≤ 5 by omega)) (by decide)))
          refine p_joined (by omega) (Nat.le_refl 8000) bu bv ?_
          replace h : ∀ b, Q (rsD (joinR o u v)) b S := h
          unfold joinR at h
          cases q3 : joinI o u v with
          | none =>
            rw [q3] at h
            walk_at "mi go"
            exact h _
          | some w =>
            rw [q3] at h
            walk_at "mi go"
            exact h _

end
end Gx
set_option Elab.async false
set_option linter.all false
set_option maxRecDepth 100000
set_option maxHeartbeats 1000000
namespace Gx
open PySem Mi
local macro_rules | `(tactic| walk_at "mi go") => `(tactic| (repeat (first | ((with_reducible refine' putI ?e ?_); (case e => ((try dsimp only [List.set_cons_zero, List.set_cons_succ, slOf_f, slOf_t, wipeF, backF, Tg.put, putAll, List.getElem?_cons_zero, List.getElem?_cons_succ, Option.getD_some]); (try rfl)))) | ((with_reducible refine' OW.some ?e ?_); (case e => rfl)) | with_reducible refine w_ope ?_ | with_reducible refine w_c ?_ | with_reducible refine w_fz ?_ | with_reducible refine w_all1 ?_ | ((with_reducible refine' w_ops ?e ?_); (case e => rfl)) | ((with_reducible refine' w_at2 ?e1 ?e2 ?_); (case e1 => rfl); (case e2 => rfl)) | with_reducible refine w_bin ?_ | ((with_reducible refine' w_at1 ?e ?_); (case e => rfl)) | with_reducible refine w_all0 ?_ | with_reducible refine s_seq ?_ | with_reducible refine w_un ?_ | with_reducible refine s_if ?_ | ((with_reducible refine lenI ?e ?_); (case e => exact Nat.le_of_ble_eq_true rfl)) | ((with_reducible refine ite_F ?e ?_); (case e => rfl)) | ((with_reducible refine' w_var ?e ?_); (case e => rfl)) | with_reducible refine s_nx ?_ | with_reducible refine w_tup ?_ | ((with_reducible refine ite_T ?e ?_); (case e => rfl)) | with_reducible refine s_ret ?_ | with_reducible refine w_call ?_ | with_reducible refine w_truth ?_ | ((with_reducible refine' setI ?e ?_); (case e => ((try dsimp only [List.set_cons_zero, List.set_cons_succ, slOf_f, slOf_t, wipeF, backF, Tg.put, putAll, List.getElem?_cons_zero, List.getElem?_cons_succ, Option.getD_some]); (try rfl)))) | with_reducible refine w_ife ?_ | with_reducible refine s_set ?_ | with_reducible refine w_vl ?_ | with_reducible refine w_lst ?_ | with_reducible refine w_iter ?_ | with_reducible refine w_andV ?_ | ((with_reducible refine' s_retV ?e ?_); (case e => rfl)) | with_reducible refine s_for ?_ | ((with_reducible refine' w_mut ?e ?eL ?_); (case e => rfl); (case eL => rfl)) | with_reducible refine s_drop ?_ | with_reducible refine w_cut ?_ | with_reducible refine w_part ?_ | with_reducible refine w_nopart ?_ | with_reducible refine w_mcomp ?_ | with_reducible refine w_pure ?_ | with_reducible refine w_not ?_ | ((with_reducible refine' w_varO ?e ?_); (case e => rfl)) | with_reducible refine w_dct ?_ | with_reducible refine w_pairs0 ?_ | ((with_reducible refine kvsI ?e ?_); (case e => exact Nat.le_of_ble_eq_true rfl)) | ((with_reducible refine' s_retO ?e ?_); (case e => rfl)) | with_reducible refine w_notV ?_ | with_reducible refine w_or ?_ | with_reducible refine w_zip ?_ | with_reducible refine w_get ?_ | ((with_reducible refine' w_isD ?e ?_); (case e => rfl)) | ((with_reducible refine peI ?e ?_); (case e => exact ⟨_, rfl⟩)) | with_reducible refine w_range1 ?_ | with_reducible refine w_pairs1 ?_ | with_reducible refine s_par ?_ | with_reducible refine s_while ?_ | with_reducible refine s_put ?_ | with_reducible refine s_tup ?_ | with_reducible refine s_raise ?_ | with_reducible refine s_try ?_ | with_reducible refine s_retN ?_ | with_reducible refine s_bk ?_ | with_reducible refine s_ct ?_ | with_reducible refine w_chain ?_ | with_reducible refine w_and ?_ | with_reducible refine w_bl ?_ | with_reducible refine w_orV ?_ | with_reducible refine w_lstS ?_ | with_reducible refine w_callK ?_ | with_reducible refine w_meth1 ?_ | with_reducible refine w_enum ?_ | with_reducible refine w_opt ?_ | with_reducible refine w_range2 ?_ | with_reducible refine s_forD ?_ | with_reducible refine w_compD ?_ | ((with_reducible refine' w_isT ?e ?k ?_); (case e => rfl); (case k => rfl)) | ((with_reducible refine' w_ex ?e ?e2 ?_); (case e => rfl); (case e2 => rfl)) | ((with_reducible refine ltI ?e ?_); (case e => exact Nat.le_of_ble_eq_true rfl)))))
local macro_rules | `(tactic| walk_at "mi w") => `(tactic| (repeat (first | ((with_reducible refine' putI ?e ?_); (case e => ((try dsimp only [List.set_cons_zero, List.set_cons_succ, slOf_f, slOf_t, wipeF, backF, Tg.put, putAll, List.getElem?_cons_zero, List.getElem?_cons_succ, Option.getD_some]); (try rfl)))) | ((with_reducible refine' OW.some ?e ?_); (case e => rfl)) | with_reducible refine w_ope ?_ | with_reducible refine w_c ?_ | with_reducible refine w_fz ?_ | with_reducible refine w_all1 ?_ | ((with_reducible refine' w_ops ?e ?_); (case e => rfl)) | ((with_reducible refine' w_at2 ?e1 ?e2 ?_); (case e1 => rfl); (case e2 => rfl)) | with_reducible refine w_bin ?_ | ((with_reducible refine' w_at1 ?e ?_); (case e => rfl)) | with_reducible refine w_all0 ?_ | with_reducible refine w_un ?_ | ((with_reducible refine lenI ?e ?_); (case e => exact Nat.le_of_ble_eq_true rfl)) | ((with_reducible refine ite_F ?e ?_); (case e => rfl)) | ((with_reducible refine' w_var ?e ?_); (case e => rfl)) | with_reducible refine w_tup ?_ | ((with_reducible refine ite_T ?e ?_); (case e => rfl)) | with_reducible refine w_call ?_ | with_reducible refine w_truth ?_ | ((with_reducible refine' setI ?e ?_); (case e => ((try dsimp only [List.set_cons_zero, List.set_cons_succ, slOf_f, slOf_t, wipeF, backF, Tg.put, putAll, List.getElem?_cons_zero, List.getElem?_cons_succ, Option.getD_some]); (try rfl)))) | with_reducible refine w_ife ?_ | with_reducible refine w_vl ?_ | with_reducible refine w_lst ?_ | with_reducible refine w_iter ?_ | with_reducible refine w_andV ?_ | ((with_reducible refine' w_mut ?e ?eL ?_); (case e => rfl); (case eL => rfl)) | with_reducible refine w_cut ?_ | with_reducible refine w_part ?_ | with_reducible refine w_nopart ?_ | with_reducible refine w_mcomp ?_ | with_reducible refine w_pure ?_ | with_reducible refine w_not ?_ | ((with_reducible refine' w_varO ?e ?_); (case e => rfl)) | with_reducible refine w_dct ?_ | with_reducible refine w_pairs0 ?_ | ((with_reducible refine kvsI ?e ?_); (case e => exact Nat.le_of_ble_eq_true rfl)) | with_reducible refine w_notV ?_ | with_reducible refine w_or ?_ | with_reducible refine w_zip ?_ | with_reducible refine w_get ?_ | ((with_reducible refine' w_isD ?e ?_); (case e => rfl)) | ((with_reducible refine peI ?e ?_); (case e => exact ⟨_, rfl⟩)) | with_reducible refine w_range1 ?_ | with_reducible refine w_pairs1 ?_ | with_reducible refine w_chain ?_ | with_reducible refine w_and ?_ | with_reducible refine w_bl ?_ | with_reducible refine w_orV ?_ | with_reducible refine w_lstS ?_ | with_reducible refine w_callK ?_ | with_reducible refine w_meth1 ?_ | with_reducible refine w_enum ?_ | with_reducible refine w_opt ?_ | with_reducible refine w_range2 ?_ | with_reducible refine w_compD ?_ | ((with_reducible refine' w_isT ?e ?k ?_); (case e => rfl); (case k => rfl)) | ((with_reducible refine' w_ex ?e ?e2 ?_); (case e => rfl); (case e2 => rfl)) | ((with_reducible refine ltI ?e ?_); (case e => exact Nat.le_of_ble_eq_true rfl)))))
section
variable {n : Nat} {lam : Store → CR} {S : Store} {Q : D → Bool → Store → Prop} {E : Nat → List (Tx × D) → Store → Prop}
theorem canLay_name {x : Tx} (h : nameT x = true) : dQ (.str x) = true := by
  unfold nameT at h
  have h4 := (Bool.and_eq_true_iff.mp (Bool.and_eq_true_iff.mp (Bool.and_eq_true_iff.mp h).2).2).2
  have key : ∀ c ∈ LATERc, c < 0x110000 := by decide
  exact dQ_str (List.all_eq_true.mpr fun c hc => decide_eq_true (key c (of_decide_eq_true (List.all_eq_true.mp h4 c hc))))
theorem dQ_nought : dQ nought = true := by
  have h2 : dQ (.str (txs "nought")) = true := dQ_str (by decide)
  show (dQ (.str (txs "nought")) && true) = true
  rw [h2]
  rfl
theorem val_ref {g : Tx → Option Int} : ∀ {s : Sm} {d : D}, wfS s → valS g s = .ref d → dQ d = true ∧ dDp d ≤ 3 ∧ dPl d = true
  | .num k, d, hw, h => by cases h
  | .nam x, d, hw, h => by
    rw [valS_nam] at h
    cases q : g x with
    | some u => rw [q] at h; cases h
    | none =>
      rw [q] at h
      cases h
      refine ⟨?_, by simp [dDp, dDps], by rfl⟩
      have h1 := canLay_name hw.1
      have h2 : dQ (.str (txs "number")) = true := dQ_str (by decide)
      show (dQ (.str (txs "number")) && (dQ (.str x) && true)) = true
      rw [h1, h2]
      rfl
  | .les a, d, hw, h => by
    unfold valS at h
    cases q : valS g a with
    | num u => rw [q] at h; cases h
    | ref e =>
      rw [q] at h
      cases h
      exact val_ref (s := a) hw q
  | .bin o a b, d, hw, h => by
    unfold valS at h
    cases q : valS g a with
    | ref e =>
      rw [q] at h
      cases h
      exact val_ref (s := a) hw.1 q
    | num u =>
      rw [q] at h
      cases q2 : valS g b with
      | ref e =>
        rw [q2] at h
        cases h
        exact val_ref (s := b) hw.2 q2
      | num w =>
        rw [q2] at h
        dsimp only at h
        unfold joinR at h
        cases q3 : joinI o u w with
        | some z => rw [q3] at h; cases h
        | none =>
          rw [q3] at h
          cases h
          exact ⟨dQ_nought, by decide, by rfl⟩
theorem wrong1 {d : D} (h : dQ d = true) (hd : dDp d ≤ 3) {es : List D} (he : es = [] ∨ ∃ e, es = [rsD (.ref e)] ∧ dQ e = true ∧ dDp e ≤ 3) : pNe S (.lst (rsD (.ref d) :: es)) (.lst []) = some true := by
  have one : ∀ {d : D}, dQ d = true → dDp d ≤ 3 → dQ (rsD (.ref d)) = true ∧ dDp (rsD (.ref d)) ≤ 10 := by
    intro d h hd
    have h2 : dQ (.str (txs "refused")) = true := dQ_str (by decide)
    refine ⟨?_, ?_⟩
    · show (dQ (.str (txs "refused")) && (dQ d && true)) = true
      rw [h, h2]
      rfl
    · unfold rsD
      simp only [dDp, dDps]
      omega
  refine pNe_nil (dQs_of fun z hz => ?_) (dDps_of fun z hz => ?_)
  · rcases List.mem_cons.mp hz with rfl | hz
    · exact (one h hd).1
    · rcases he with rfl | ⟨e, rfl, h1, h2⟩
      · cases hz
      · rw [List.mem_singleton] at hz
        subst hz
        exact (one h1 h2).1
  · rcases List.mem_cons.mp hz with rfl | hz
    · exact Nat.le_trans (one h hd).2 (by decide)
    · rcases he with rfl | ⟨e, rfl, h1, h2⟩
      · cases hz
      · rw [List.mem_singleton] at hz
        subst hz
        exact Nat.le_trans (one h1 h2).2 (by decide)
theorem p_worth {kvs : List (Ky × D)} (hk : HeldOK kvs) {s : Sm} {d : D} (hs : SD s d) : ∀ {n : Nat} {lam : Store → CR} {S : Store} {Q : D → Bool → Store → Prop} {E : Nat → List (Tx × D) → Store → Prop}, wfS s → htS s ≤ 5 → htS s + 4 ≤ n → (∀ b, Q (rsD (valS (fun x => numT (gT kvs x)) s)) b S) → CW (callM bd n 22 [.val d, .val (.dct kvs)] lam S) Q E := by
  have hg : ∀ x v, (fun x => numT (gT kvs x)) x = some v → v.natAbs < 2 ^ 32 := fun x v e => (gT_get (S := []) hk x).2.2 v e
  induction hs with
  | @num k d hd =>
    intro n lam S Q E hw h5 hn h
    obtain ⟨m, rfl⟩ : ∃ m, n = m + 1 := ⟨n - 1, by omega⟩; refine w__law_worth ?_; unfold m__law_worth
    rcases sq_cases hd with rfl | rfl
    all_goals
      walk_at "mi go"
      exact h _
  | @nam x d hd =>
    intro n lam S Q E hw h5 hn h
    obtain ⟨g1, g2, g3⟩ := gT_get (S := S) hk x
    have g1' : (valK kvs (.s x)).getD (.str (txs "")) = .str (gT kvs x) := Option.some.inj g1
    obtain ⟨m, rfl⟩ : ∃ m, n = m + 1 := ⟨n - 1, by omega⟩; refine w__law_worth ?_; unfold m__law_worth
    rcases sq_cases hd with rfl | rfl
    all_goals
      walk_at "mi go"
      rw [g1']
      refine p_law_number (by omega) g2 ?_
      cases q : numT (gT kvs x) with
      | none =>
        rw [valS_nam, q] at h
        walk_at "mi go"
        exact h _
      | some v =>
        rw [valS_nam, q] at h
        walk_at "mi go"
        exact h _
  | @les a d e hd ha ih =>
    intro n lam S Q E hw h5 hn h
    have hw' : wfS a := hw
    have h5' : htS a + 1 ≤ 5 := h5
    have hn' : htS a + 1 + 4 ≤ n := hn
    obtain ⟨m, rfl⟩ : ∃ m, n = m + 1 := ⟨n - 1, by omega⟩; refine w__law_worth ?_; unfold m__law_worth
    rcases sq_cases hd with rfl | rfl
    all_goals
      walk_at "mi go"
      refine w_compU rfl rfl (cp1 ?_)
      walk_at "mi go"
      refine ih hw' (by omega) (by omega) fun b => ?_
      walk_at "mi go"
      refine cp0 ?_
      unfold valS at h
      cases q : valS (fun x => numT (gT kvs x)) a with
      | ref r =>
        rw [q] at h
        obtain ⟨r1, r2, r3⟩ := val_ref hw' q
        walk_at "mi go"
        refine w_compU rfl rfl (cp1 ?_)
        walk_at "mi go"
        refine cp0 ?_
        walk_at "mi go"
        refine OW.some (wrong1 r1 r2 (.inl rfl)) ?_
        walk_at "mi go"
        exact h _
      | num u =>
        rw [q] at h
        walk_at "mi go"
        refine w_compU rfl rfl (cp1 ?_)
        walk_at "mi go"
        refine cp0 ?_
        walk_at "mi go"
        rw [Int.zero_sub]
        exact h _
  | @bin o a b d e f hd ha hb ih1 ih2 =>
    intro n lam S Q E hw h5 hn h
    have hw1 : wfS a := hw.1
    have hw2 : wfS b := hw.2
    have h5' : max (htS a) (htS b) + 1 ≤ 5 := h5
    have hn' : max (htS a) (htS b) + 1 + 4 ≤ n := hn
    obtain ⟨m, rfl⟩ : ∃ m, n = m + 1 := ⟨n - 1, by omega⟩; refine w__law_worth ?_; unfold m__law_worth
    rcases sq_cases hd with rfl | rfl
    all_goals
      walk_at "mi go"
      refine ite_F (decide_eq_false (opNe o).1) ?_
      walk_at "mi go"
      refine ite_F (decide_eq_false (opNe o).2.1) ?_
      walk_at "mi go"
      refine w_compU rfl rfl (cp1 ?_)
      walk_at "mi go"
      refine ih1 hw1 (by omega) (by omega) fun b1 => ?_
      walk_at "mi go"
      refine cp1 ?_
      walk_at "mi go"
      refine ih2 hw2 (by omega) (by omega) fun b2 => ?_
      walk_at "mi go"
      refine cp0 ?_
      unfold valS at h
      cases q : valS (fun x => numT (gT kvs x)) a with
      | ref r =>
        rw [q] at h
        obtain ⟨r1, r2, r3⟩ := val_ref hw1 q
        cases q2 : valS (fun x => numT (gT kvs x)) b with
        | ref r' =>
          obtain ⟨s1, s2, s3⟩ := val_ref hw2 q2
          walk_at "mi go"
          refine w_compU rfl rfl (cp1 ?_)
          walk_at "mi go"
          refine cp1 ?_
          walk_at "mi go"
          refine cp0 ?_
          walk_at "mi go"
          refine OW.some (wrong1 r1 r2 (.inr ⟨_, rfl, s1, s2⟩)) ?_
          walk_at "mi go"
          exact h _
        | num v =>
          walk_at "mi go"
          refine w_compU rfl rfl (cp1 ?_)
          walk_at "mi go"
          refine cp1 ?_
          walk_at "mi go"
          refine cp0 ?_
          walk_at "mi go"
          refine OW.some (wrong1 r1 r2 (.inl rfl)) ?_
          walk_at "mi go"
          exact h _
      | num u =>
        rw [q] at h
        cases q2 : valS (fun x => numT (gT kvs x)) b with
        | ref r =>
          rw [q2] at h
          obtain ⟨s1, s2, s3⟩ := val_ref hw2 q2
          walk_at "mi go"
          refine w_compU rfl rfl (cp1 ?_)
          walk_at "mi go"
          refine cp1 ?_
          walk_at "mi go"
          refine cp0 ?_
          walk_at "mi go"
          refine OW.some (wrong1 s1 s2 (.inl rfl)) ?_
          walk_at "mi go"
          exact h _
        | num v =>
          rw [q2] at h
          replace h : ∀ b, Q (rsD (joinR o u v)) b S := h
          have bu := Nat.lt_of_lt_of_le (val_bd hg hw1 q) (Nat.pow_le_pow_right (show 0 < 2 by decide) (show Ebd (htS a) ≤ 8000 from Nat.le_trans (Ebd_mono (show htS a ≤ 5 by omega)) (by decide)))
          have bv := Nat.lt_of_lt_of_le (val_bd hg hw2 q2) (Nat.pow_le_pow_right (show 0 < 2 by decide) (show Ebd (htS b) ≤ 8000 from Nat.le_trans (Ebd_mono (show htS b ≤ 5 by omega)) (by decide)))
          walk_at "mi go"
          refine w_compU rfl rfl (cp1 ?_)
          walk_at "mi go"
          refine cp1 ?_
          walk_at "mi go"
          refine cp0 ?_
          walk_at "mi go"
          refine ite_F (decide_eq_false (opNe o).2.2) ?_
          cases o
          case dv =>
            walk_at "mi go"
            refine p_parted (by omega) (.inl rfl) (Nat.le_refl 8000) bu bv ?_
            exact h _
          case rm =>
            walk_at "mi go"
            refine p_parted (by omega) (.inr rfl) (Nat.le_refl 8000) bu bv ?_
            exact h _
          case ml =>
            walk_at "mi go"
            refine OW.some (if_pos (okMul_b 8000 (by omega) bu bv)) ?_
            walk_at "mi go"
            exact h _
          case lt =>
            walk_at "mi go"
            refine ite_i (fun hc => ?_) (fun hc => ?_)
            · walk_at "mi go"
              rw [hc]
              have z := h false
              unfold joinR joinI at z
              dsimp only at z
              rw [hc] at z
              exact z
            · walk_at "mi go"
              have z := h false
              unfold joinR joinI at z
              dsimp only at z
              rw [hc] at z
              exact z
          case le =>
            walk_at "mi go"
            refine ite_i (fun hc => ?_) (fun hc => ?_)
            · walk_at "mi go"
              have z := h false
              unfold joinR joinI at z
              dsimp only at z
              have hc' := of_decide_eq_true hc
              rw [decide_eq_true (show u ≤ v by omega)] at z
              rw [hc]
              exact z
            · walk_at "mi go"
              have z := h false
              unfold joinR joinI at z
              dsimp only at z
              have hc' := of_decide_eq_false hc
              rw [show decide (u ≤ v) = decide (u = v) by by_cases e : u = v <;> simp [e] <;> omega] at z
              exact z
          all_goals
            walk_at "mi go"
            exact h _

end
end Gx
set_option Elab.async false
set_option linter.all false
set_option maxRecDepth 100000
set_option maxHeartbeats 1000000
namespace Gx
open PySem Mi
local macro_rules | `(tactic| walk_at "mi go") => `(tactic| (repeat (first | ((with_reducible refine' putI ?e ?_); (case e => ((try dsimp only [List.set_cons_zero, List.set_cons_succ, slOf_f, slOf_t, wipeF, backF, Tg.put, putAll, List.getElem?_cons_zero, List.getElem?_cons_succ, Option.getD_some]); (try rfl)))) | ((with_reducible refine' OW.some ?e ?_); (case e => rfl)) | with_reducible refine w_ope ?_ | with_reducible refine w_c ?_ | with_reducible refine w_fz ?_ | with_reducible refine w_all1 ?_ | ((with_reducible refine' w_ops ?e ?_); (case e => rfl)) | ((with_reducible refine' w_at2 ?e1 ?e2 ?_); (case e1 => rfl); (case e2 => rfl)) | with_reducible refine w_bin ?_ | ((with_reducible refine' w_at1 ?e ?_); (case e => rfl)) | with_reducible refine w_all0 ?_ | with_reducible refine s_seq ?_ | with_reducible refine w_un ?_ | with_reducible refine s_if ?_ | ((with_reducible refine lenI ?e ?_); (case e => exact Nat.le_of_ble_eq_true rfl)) | ((with_reducible refine ite_F ?e ?_); (case e => rfl)) | ((with_reducible refine' w_var ?e ?_); (case e => rfl)) | with_reducible refine s_nx ?_ | with_reducible refine w_tup ?_ | ((with_reducible refine ite_T ?e ?_); (case e => rfl)) | with_reducible refine s_ret ?_ | with_reducible refine w_call ?_ | with_reducible refine w_truth ?_ | ((with_reducible refine' setI ?e ?_); (case e => ((try dsimp only [List.set_cons_zero, List.set_cons_succ, slOf_f, slOf_t, wipeF, backF, Tg.put, putAll, List.getElem?_cons_zero, List.getElem?_cons_succ, Option.getD_some]); (try rfl)))) | with_reducible refine w_ife ?_ | with_reducible refine s_set ?_ | with_reducible refine w_vl ?_ | with_reducible refine w_lst ?_ | with_reducible refine w_iter ?_ | with_reducible refine w_andV ?_ | ((with_reducible refine' s_retV ?e ?_); (case e => rfl)) | with_reducible refine s_for ?_ | ((with_reducible refine' w_mut ?e ?eL ?_); (case e => rfl); (case eL => rfl)) | with_reducible refine s_drop ?_ | with_reducible refine w_cut ?_ | with_reducible refine w_part ?_ | with_reducible refine w_nopart ?_ | with_reducible refine w_mcomp ?_ | with_reducible refine w_pure ?_ | with_reducible refine w_not ?_ | ((with_reducible refine' w_varO ?e ?_); (case e => rfl)) | with_reducible refine w_dct ?_ | with_reducible refine w_pairs0 ?_ | ((with_reducible refine kvsI ?e ?_); (case e => exact Nat.le_of_ble_eq_true rfl)) | ((with_reducible refine' s_retO ?e ?_); (case e => rfl)) | with_reducible refine w_notV ?_ | with_reducible refine w_or ?_ | with_reducible refine w_zip ?_ | with_reducible refine w_get ?_ | ((with_reducible refine' w_isD ?e ?_); (case e => rfl)) | ((with_reducible refine peI ?e ?_); (case e => exact ⟨_, rfl⟩)) | with_reducible refine w_range1 ?_ | with_reducible refine w_pairs1 ?_ | with_reducible refine s_par ?_ | with_reducible refine s_while ?_ | with_reducible refine s_put ?_ | with_reducible refine s_tup ?_ | with_reducible refine s_raise ?_ | with_reducible refine s_try ?_ | with_reducible refine s_retN ?_ | with_reducible refine s_bk ?_ | with_reducible refine s_ct ?_ | with_reducible refine w_chain ?_ | with_reducible refine w_and ?_ | with_reducible refine w_bl ?_ | with_reducible refine w_orV ?_ | with_reducible refine w_lstS ?_ | with_reducible refine w_callK ?_ | with_reducible refine w_meth1 ?_ | with_reducible refine w_enum ?_ | with_reducible refine w_opt ?_ | with_reducible refine w_range2 ?_ | with_reducible refine s_forD ?_ | with_reducible refine w_compD ?_ | ((with_reducible refine' w_isT ?e ?k ?_); (case e => rfl); (case k => rfl)) | ((with_reducible refine' w_ex ?e ?e2 ?_); (case e => rfl); (case e2 => rfl)) | ((with_reducible refine ltI ?e ?_); (case e => exact Nat.le_of_ble_eq_true rfl)))))
local macro_rules | `(tactic| walk_at "mi w") => `(tactic| (repeat (first | ((with_reducible refine' putI ?e ?_); (case e => ((try dsimp only [List.set_cons_zero, List.set_cons_succ, slOf_f, slOf_t, wipeF, backF, Tg.put, putAll, List.getElem?_cons_zero, List.getElem?_cons_succ, Option.getD_some]); (try rfl)))) | ((with_reducible refine' OW.some ?e ?_); (case e => rfl)) | with_reducible refine w_ope ?_ | with_reducible refine w_c ?_ | with_reducible refine w_fz ?_ | with_reducible refine w_all1 ?_ | ((with_reducible refine' w_ops ?e ?_); (case e => rfl)) | ((with_reducible refine' w_at2 ?e1 ?e2 ?_); (case e1 => rfl); (case e2 => rfl)) | with_reducible refine w_bin ?_ | ((with_reducible refine' w_at1 ?e ?_); (case e => rfl)) | with_reducible refine w_all0 ?_ | with_reducible refine w_un ?_ | ((with_reducible refine lenI ?e ?_); (case e => exact Nat.le_of_ble_eq_true rfl)) | ((with_reducible refine ite_F ?e ?_); (case e => rfl)) | ((with_reducible refine' w_var ?e ?_); (case e => rfl)) | with_reducible refine w_tup ?_ | ((with_reducible refine ite_T ?e ?_); (case e => rfl)) | with_reducible refine w_call ?_ | with_reducible refine w_truth ?_ | ((with_reducible refine' setI ?e ?_); (case e => ((try dsimp only [List.set_cons_zero, List.set_cons_succ, slOf_f, slOf_t, wipeF, backF, Tg.put, putAll, List.getElem?_cons_zero, List.getElem?_cons_succ, Option.getD_some]); (try rfl)))) | with_reducible refine w_ife ?_ | with_reducible refine w_vl ?_ | with_reducible refine w_lst ?_ | with_reducible refine w_iter ?_ | with_reducible refine w_andV ?_ | ((with_reducible refine' w_mut ?e ?eL ?_); (case e => rfl); (case eL => rfl)) | with_reducible refine w_cut ?_ | with_reducible refine w_part ?_ | with_reducible refine w_nopart ?_ | with_reducible refine w_mcomp ?_ | with_reducible refine w_pure ?_ | with_reducible refine w_not ?_ | ((with_reducible refine' w_varO ?e ?_); (case e => rfl)) | with_reducible refine w_dct ?_ | with_reducible refine w_pairs0 ?_ | ((with_reducible refine kvsI ?e ?_); (case e => exact Nat.le_of_ble_eq_true rfl)) | with_reducible refine w_notV ?_ | with_reducible refine w_or ?_ | with_reducible refine w_zip ?_ | with_reducible refine w_get ?_ | ((with_reducible refine' w_isD ?e ?_); (case e => rfl)) | ((with_reducible refine peI ?e ?_); (case e => exact ⟨_, rfl⟩)) | with_reducible refine w_range1 ?_ | with_reducible refine w_pairs1 ?_ | with_reducible refine w_chain ?_ | with_reducible refine w_and ?_ | with_reducible refine w_bl ?_ | with_reducible refine w_orV ?_ | with_reducible refine w_lstS ?_ | with_reducible refine w_callK ?_ | with_reducible refine w_meth1 ?_ | with_reducible refine w_enum ?_ | with_reducible refine w_opt ?_ | with_reducible refine w_range2 ?_ | with_reducible refine w_compD ?_ | ((with_reducible refine' w_isT ?e ?k ?_); (case e => rfl); (case k => rfl)) | ((with_reducible refine' w_ex ?e ?e2 ?_); (case e => rfl); (case e2 => rfl)) | ((with_reducible refine ltI ?e ?_); (case e => exact Nat.le_of_ble_eq_true rfl)))))
section
variable {n : Nat} {lam : Store → CR} {S : Store} {Q : D → Bool → Store → Prop} {E : Nat → List (Tx × D) → Store → Prop}
def lenOK (d : D) : Prop := ∀ x, d = .str x → x.length ≤ LIM
def kvB (kv : Ky × D) : Bool := nameB (kyD kv.1) && textB kv.2
def valB : D → Bool
  | .dct kvs => kvs.all kvB
  | _ => false
theorem p_are_values (hn : 3 ≤ n) {d : D} (hp : dPl d = true) (hs : ∀ kvs, d = .dct kvs → ∀ kv ∈ kvs, dPl kv.2 = true ∧ lenOK (kyD kv.1) ∧ lenOK kv.2) (h : Q (.bl (valB d)) false S) : CW (callM bd n 6 [.val d] lam S) Q E := by
  cases d with
  | ref i => cases hp
  | scr i => cases hp
  | dct kvs =>
    have hs := hs kvs rfl
    have hl : kvs.length ≤ LIM := by
      have : (decide (kvs.length ≤ LIM) && dPlk kvs) = true := by simpa only [dPl] using hp
      exact of_decide_eq_true (Bool.and_eq_true_iff.mp this).1
    obtain ⟨m, rfl⟩ : ∃ m, n = m + 1 := ⟨n - 1, by omega⟩; refine w_are_values ?_; unfold m_are_values
    walk_at "mi go"
    refine w_compM (xs := kvs) (fun kv => .tup [kyD kv.1, kv.2]) (fun kv => .bl (kvB kv)) (fun f => ∃ x1 x2, f = [.val (.dct kvs), x1, x2]) rfl rfl ⟨_, _, rfl⟩ hl ?_ ?_
    · intro kv hkv f ⟨x1, x2, hf⟩
      subst hf
      obtain ⟨h1, h2, h3⟩ := hs kv hkv
      walk_at "mi go"
      refine p_is_name (by omega) (by cases kv.1 <;> rfl) h2 ?_
      cases hb : nameB (kyD kv.1) with
      | false =>
        walk_at "mi go"
        exact ⟨by unfold kvB; rw [hb]; rfl, rfl, _, _, rfl⟩
      | true =>
        walk_at "mi go"
        refine p_is_text (by omega) h1 h3 ?_
        walk_at "mi go"
        exact ⟨by unfold kvB; rw [hb]; rfl, rfl, _, _, rfl⟩
    · intro f ⟨x1, x2, hf⟩
      subst hf
      walk_at "mi go"
      refine OW.some (bAll_map _ _) ?_
      exact h
  | _ =>
    obtain ⟨m, rfl⟩ : ∃ m, n = m + 1 := ⟨n - 1, by omega⟩; refine w_are_values ?_; unfold m_are_values
    walk_at "mi go"
    exact h
theorem p_sum_ok {kvs : List (Ky × D)} (hk : HeldOK kvs) (hp : dPl (.dct kvs) = true) (hs : ∀ kv ∈ kvs, dPl kv.2 = true ∧ lenOK (kyD kv.1) ∧ lenOK kv.2) (hv : valB (.dct kvs) = true) {s : Sm} {d : D} (sd : SD s d) (hw : wfS s) (h5 : htS s ≤ 5) (hn : htS s + 6 ≤ n) (h : ∀ b, Q (rsD (valS (fun x => numT (gT kvs x)) s)) b S) : CW (callM bd n 11 [.val d, .val (.dct kvs)] lam S) Q E := by
  obtain ⟨m, rfl⟩ : ∃ m, n = m + 1 := ⟨n - 1, by omega⟩; refine w_sum_value ?_; unfold m_sum_value
  walk_at "mi go"
  refine p_is_sum sd hw (by omega) ?_
  walk_at "mi go"
  refine p_are_values (by omega) hp (fun k e => by cases e; exact hs) ?_
  rw [hv]
  walk_at "mi go"
  refine p_value hk sd hw h5 (by omega) fun b => ?_
  exact h b
/-- no sum -/
def NS (k : Nat) (d : D) : Prop := ∀ {n : Nat} {lam : Store → CR} {S : Store} {Q : D → Bool → Store → Prop} {E : Nat → List (Tx × D) → Store → Prop}, k ≤ n → Q (.bl false) false S → CW (callM bd n 5 [.val d] lam S) Q E
theorem p_sum_bad {k : Nat} {d x : D} (hd : NS k d) (hn : k + 1 ≤ n) (h : E 0 [(txs "total", d)] S) : CW (callM bd n 11 [.val d, .val x] lam S) Q E := by
  obtain ⟨m, rfl⟩ : ∃ m, n = m + 1 := ⟨n - 1, by omega⟩; refine w_sum_value ?_; unfold m_sum_value
  walk_at "mi go"
  refine hd (by omega) ?_
  walk_at "mi go"
  exact h
theorem p_val_bad {s : Sm} {d x : D} (sd : SD s d) (hw : wfS s) (hn : htS s + 6 ≤ n) (hp : dPl x = true) (hs : ∀ kvs, x = .dct kvs → ∀ kv ∈ kvs, dPl kv.2 = true ∧ lenOK (kyD kv.1) ∧ lenOK kv.2) (hv : valB x = false) (h : E 1 [(txs "held", x)] S) : CW (callM bd n 11 [.val d, .val x] lam S) Q E := by
  obtain ⟨m, rfl⟩ : ∃ m, n = m + 1 := ⟨n - 1, by omega⟩; refine w_sum_value ?_; unfold m_sum_value
  walk_at "mi go"
  refine p_is_sum sd hw (by omega) ?_
  walk_at "mi go"
  refine p_are_values (by omega) hp hs ?_
  rw [hv]
  walk_at "mi go"
  exact h
/-! ### the stream -/
theorem allI_map (ns : List Int) : allI (ns.map D.int) = some ns := by
  induction ns with
  | nil => rfl
  | cons i ns ih =>
    show (allI (ns.map D.int)).map (i :: ·) = _
    rw [ih]
    rfl
theorem pair_mem {k : Nat} {ns : List Int} {d : D} (h : d ∈ pairD (rangeD 0 k) (ns.map D.int)) : ∃ i z : Int, d = .tup [.int i, .int z] ∧ 0 ≤ i ∧ i < k := by
  rw [pairD_zip] at h
  obtain ⟨p, hp, rfl⟩ := List.mem_map.mp h
  have h1 := (List.of_mem_zip hp).1
  have h2 := (List.of_mem_zip hp).2
  unfold rangeD at h1
  obtain ⟨j, hj, e1⟩ := List.mem_map.mp h1
  obtain ⟨z, _, e2⟩ := List.mem_map.mp h2
  have := List.mem_range.mp hj
  exact ⟨0 + (j : Int), z, by rw [← e1, ← e2], by omega, by omega⟩
theorem p_stream {ns : List Int} {k : Int} (hn : 1 ≤ n) (hl : ns.length ≤ 63) (h0 : 0 ≤ k) (h3 : k ≤ 3) (h : ∀ a b, StV 0 a b 0 → Q (.ref S.length) false (S ++ [.lst [.int a, .int b, .int 0]])) : CW (callM bd n 12 [.val (.scr ns), .val (.int k)] lam S) Q E := by
  have hlen : (pairD (rangeD 0 (ns.map D.int).length) (ns.map D.int)).length ≤ LIM := by
    rw [pairD_zip, List.length_map, List.length_zip, List.length_map]
    show _ ≤ 16777216
    omega
  obtain ⟨m, rfl⟩ : ∃ m, n = m + 1 := ⟨n - 1, by omega⟩; refine w__law_stream ?_; unfold m__law_stream
  refine s_seq (s_set (RW.mono (Q := fun d f' S' => ∃ cell : Int, 0 ≤ cell ∧ d = (.int cell, false) ∧ f' = [.val (.scr ns), .val (.int k), .un, .un, .un, .un] ∧ S = S') ?_ (fun d f' S' ⟨cell, hc, e1, e2, e3⟩ => ?_) (fun _ _ _ _ z => z)))
  · walk_at "mi go"
    refine ite_i (fun hg => ?_) (fun hg => ?_)
    · have hlt := of_decide_eq_true hg
      walk_at "mi go"
      obtain ⟨x, hx, e, _⟩ := atI_at (xs := ns.map D.int) h0 hlt
      obtain ⟨z, _, rfl⟩ := List.mem_map.mp hx
      refine OW.some (a := (.int z, false)) (by show (atI (ns.map D.int) k).map _ = _; rw [e]; rfl) ?_
      walk_at "mi go"
      exact ⟨_, by split <;> omega, rfl, rfl, rfl⟩
    · walk_at "mi go"
      refine OW.some (a := (.int (ns.take 1).sum, false)) (by
        show ((some (cut (ns.map D.int) none (some 1))).bind allI).map _ = _
        rw [Option.bind_some, cut_n1, ← List.map_take, allI_map]
        rfl) ?_
      walk_at "mi go"
      exact ⟨_, by omega, rfl, rfl, rfl⟩
  · subst e1 e2 e3
    walk_at "mi go"
    refine w_comp (fun pre post acc f S' => (∃ js : List Int, acc = js.map D.int) ∧ S' = S ∧ ∃ x1 x2, f = [.val (.scr ns), .val (.int k), .val (.int cell), .un, x1, x2]) rfl rfl ⟨⟨[], rfl⟩, rfl, _, _, rfl⟩ hlen ?_ ?_
    · intro pre e post acc f S' hds _ ⟨⟨js, i1⟩, i2, x1, x2, hf⟩
      subst hf i1 i2
      have hm : e ∈ pairD (rangeD 0 (ns.map D.int).length) (ns.map D.int) := by rw [hds]; exact List.mem_append_right _ List.mem_cons_self
      obtain ⟨i, z, rfl, z1, z2⟩ := pair_mem hm
      rw [List.length_map] at z2
      walk_at "mi go"
      refine OW.some (if_pos (okMul_l (by omega))) ?_
      walk_at "mi go"
      exact ⟨⟨js ++ [_], by rw [List.map_append]; rfl⟩, rfl, _, _, rfl⟩
    · intro acc f S' ⟨⟨js, i1⟩, i2, x1, x2, hf⟩
      subst hf i1 i2
      walk_at "mi go"
      refine OW.some (a := (.int js.sum, false)) (by show ((some (js.map D.int)).bind allI).map _ = _; rw [Option.bind_some, allI_map]; rfl) ?_
      walk_at "mi go"
      refine ite_i (fun hg => ?_) (fun hg => ?_)
      · walk_at "mi go"
        exact h _ _ ⟨hc, by omega, by omega, by omega, by omega⟩
      · walk_at "mi go"
        exact h _ _ ⟨by omega, by omega, by omega, by omega, by omega⟩

end
end Gx
set_option Elab.async false
set_option linter.all false
set_option maxRecDepth 100000
set_option maxHeartbeats 1000000
namespace Gx
open PySem Mi
local macro_rules | `(tactic| walk_at "mi go") => `(tactic| (repeat (first | ((with_reducible refine' putI ?e ?_); (case e => ((try dsimp only [List.set_cons_zero, List.set_cons_succ, slOf_f, slOf_t, wipeF, backF, Tg.put, putAll, List.getElem?_cons_zero, List.getElem?_cons_succ, Option.getD_some]); (try rfl)))) | ((with_reducible refine' OW.some ?e ?_); (case e => rfl)) | with_reducible refine w_ope ?_ | with_reducible refine w_c ?_ | with_reducible refine w_fz ?_ | with_reducible refine w_all1 ?_ | ((with_reducible refine' w_ops ?e ?_); (case e => rfl)) | ((with_reducible refine' w_at2 ?e1 ?e2 ?_); (case e1 => rfl); (case e2 => rfl)) | with_reducible refine w_bin ?_ | ((with_reducible refine' w_at1 ?e ?_); (case e => rfl)) | with_reducible refine w_all0 ?_ | with_reducible refine s_seq ?_ | with_reducible refine w_un ?_ | with_reducible refine s_if ?_ | ((with_reducible refine lenI ?e ?_); (case e => exact Nat.le_of_ble_eq_true rfl)) | ((with_reducible refine ite_F ?e ?_); (case e => rfl)) | ((with_reducible refine' w_var ?e ?_); (case e => rfl)) | with_reducible refine s_nx ?_ | with_reducible refine w_tup ?_ | ((with_reducible refine ite_T ?e ?_); (case e => rfl)) | with_reducible refine s_ret ?_ | with_reducible refine w_call ?_ | with_reducible refine w_truth ?_ | ((with_reducible refine' setI ?e ?_); (case e => ((try dsimp only [List.set_cons_zero, List.set_cons_succ, slOf_f, slOf_t, wipeF, backF, Tg.put, putAll, List.getElem?_cons_zero, List.getElem?_cons_succ, Option.getD_some]); (try rfl)))) | with_reducible refine w_ife ?_ | with_reducible refine s_set ?_ | with_reducible refine w_vl ?_ | with_reducible refine w_lst ?_ | with_reducible refine w_iter ?_ | with_reducible refine w_andV ?_ | ((with_reducible refine' s_retV ?e ?_); (case e => rfl)) | with_reducible refine s_for ?_ | ((with_reducible refine' w_mut ?e ?eL ?_); (case e => rfl); (case eL => rfl)) | with_reducible refine s_drop ?_ | with_reducible refine w_cut ?_ | with_reducible refine w_part ?_ | with_reducible refine w_nopart ?_ | with_reducible refine w_mcomp ?_ | with_reducible refine w_pure ?_ | with_reducible refine w_not ?_ | ((with_reducible refine' w_varO ?e ?_); (case e => rfl)) | with_reducible refine w_dct ?_ | with_reducible refine w_pairs0 ?_ | ((with_reducible refine kvsI ?e ?_); (case e => exact Nat.le_of_ble_eq_true rfl)) | ((with_reducible refine' s_retO ?e ?_); (case e => rfl)) | with_reducible refine w_notV ?_ | with_reducible refine w_or ?_ | with_reducible refine w_zip ?_ | with_reducible refine w_get ?_ | ((with_reducible refine' w_isD ?e ?_); (case e => rfl)) | ((with_reducible refine peI ?e ?_); (case e => exact ⟨_, rfl⟩)) | with_reducible refine w_range1 ?_ | with_reducible refine w_pairs1 ?_ | with_reducible refine s_par ?_ | with_reducible refine s_while ?_ | with_reducible refine s_put ?_ | with_reducible refine s_tup ?_ | with_reducible refine s_raise ?_ | with_reducible refine s_try ?_ | with_reducible refine s_retN ?_ | with_reducible refine s_bk ?_ | with_reducible refine s_ct ?_ | with_reducible refine w_chain ?_ | with_reducible refine w_and ?_ | with_reducible refine w_bl ?_ | with_reducible refine w_orV ?_ | with_reducible refine w_lstS ?_ | with_reducible refine w_callK ?_ | with_reducible refine w_meth1 ?_ | with_reducible refine w_enum ?_ | with_reducible refine w_opt ?_ | with_reducible refine w_range2 ?_ | with_reducible refine s_forD ?_ | with_reducible refine w_compD ?_ | ((with_reducible refine' w_isT ?e ?k ?_); (case e => rfl); (case k => rfl)) | ((with_reducible refine' w_ex ?e ?e2 ?_); (case e => rfl); (case e2 => rfl)) | ((with_reducible refine ltI ?e ?_); (case e => exact Nat.le_of_ble_eq_true rfl)))))
local macro_rules | `(tactic| walk_at "mi w") => `(tactic| (repeat (first | ((with_reducible refine' putI ?e ?_); (case e => ((try dsimp only [List.set_cons_zero, List.set_cons_succ, slOf_f, slOf_t, wipeF, backF, Tg.put, putAll, List.getElem?_cons_zero, List.getElem?_cons_succ, Option.getD_some]); (try rfl)))) | ((with_reducible refine' OW.some ?e ?_); (case e => rfl)) | with_reducible refine w_ope ?_ | with_reducible refine w_c ?_ | with_reducible refine w_fz ?_ | with_reducible refine w_all1 ?_ | ((with_reducible refine' w_ops ?e ?_); (case e => rfl)) | ((with_reducible refine' w_at2 ?e1 ?e2 ?_); (case e1 => rfl); (case e2 => rfl)) | with_reducible refine w_bin ?_ | ((with_reducible refine' w_at1 ?e ?_); (case e => rfl)) | with_reducible refine w_all0 ?_ | with_reducible refine w_un ?_ | ((with_reducible refine lenI ?e ?_); (case e => exact Nat.le_of_ble_eq_true rfl)) | ((with_reducible refine ite_F ?e ?_); (case e => rfl)) | ((with_reducible refine' w_var ?e ?_); (case e => rfl)) | with_reducible refine w_tup ?_ | ((with_reducible refine ite_T ?e ?_); (case e => rfl)) | with_reducible refine w_call ?_ | with_reducible refine w_truth ?_ | ((with_reducible refine' setI ?e ?_); (case e => ((try dsimp only [List.set_cons_zero, List.set_cons_succ, slOf_f, slOf_t, wipeF, backF, Tg.put, putAll, List.getElem?_cons_zero, List.getElem?_cons_succ, Option.getD_some]); (try rfl)))) | with_reducible refine w_ife ?_ | with_reducible refine w_vl ?_ | with_reducible refine w_lst ?_ | with_reducible refine w_iter ?_ | with_reducible refine w_andV ?_ | ((with_reducible refine' w_mut ?e ?eL ?_); (case e => rfl); (case eL => rfl)) | with_reducible refine w_cut ?_ | with_reducible refine w_part ?_ | with_reducible refine w_nopart ?_ | with_reducible refine w_mcomp ?_ | with_reducible refine w_pure ?_ | with_reducible refine w_not ?_ | ((with_reducible refine' w_varO ?e ?_); (case e => rfl)) | with_reducible refine w_dct ?_ | with_reducible refine w_pairs0 ?_ | ((with_reducible refine kvsI ?e ?_); (case e => exact Nat.le_of_ble_eq_true rfl)) | with_reducible refine w_notV ?_ | with_reducible refine w_or ?_ | with_reducible refine w_zip ?_ | with_reducible refine w_get ?_ | ((with_reducible refine' w_isD ?e ?_); (case e => rfl)) | ((with_reducible refine peI ?e ?_); (case e => exact ⟨_, rfl⟩)) | with_reducible refine w_range1 ?_ | with_reducible refine w_pairs1 ?_ | with_reducible refine w_chain ?_ | with_reducible refine w_and ?_ | with_reducible refine w_bl ?_ | with_reducible refine w_orV ?_ | with_reducible refine w_lstS ?_ | with_reducible refine w_callK ?_ | with_reducible refine w_meth1 ?_ | with_reducible refine w_enum ?_ | with_reducible refine w_opt ?_ | with_reducible refine w_range2 ?_ | with_reducible refine w_compD ?_ | ((with_reducible refine' w_isT ?e ?k ?_); (case e => rfl); (case k => rfl)) | ((with_reducible refine' w_ex ?e ?e2 ?_); (case e => rfl); (case e2 => rfl)) | ((with_reducible refine ltI ?e ?_); (case e => exact Nat.le_of_ble_eq_true rfl)))))
section
variable {n : Nat} {lam : Store → CR} {S : Store} {Q : D → Bool → Store → Prop} {E : Nat → List (Tx × D) → Store → Prop}
def cS : Nat → Nat
  | 0 => 10
  | k + 1 => 2 * cS k + 10
theorem cS_le (k : Nat) (h : k ≤ 3) : cS k ≤ 150 := by
  have : k = 0 ∨ k = 1 ∨ k = 2 ∨ k = 3 := by omega
  rcases this with rfl | rfl | rfl | rfl <;> decide
def most3 (w : Int) : Prop := w = 10 ∨ w = 1000 ∨ w = 1000000000
theorem p_lsum (N : Nat) : ∀ {n : Nat} {lam : Store → CR} {S : Store} {Q : D → Bool → Store → Prop} {E : Nat → List (Tx × D) → Store → Prop} {i k : Nat} {w : Int}, N + 4 ≤ n → most3 w → k + cS N < 2 ^ 40 → Stm k i S → (∀ s d b S', SD s d → wfS s → htS s ≤ N → Aft (k + cS N) i S S' → Q d b S') → CW (callM bd n 19 [.val (.ref i), .val (.int N), .val (.int w)] lam S) Q E := by
  have leaf : ∀ (N : Nat) {m : Nat} {lam : Store → CR} {S0 S : Store} {Q : D → Bool → Store → Prop} {E : Nat → List (Tx × D) → Store → Prop} {i k : Nat} {w : Int} {K : Fr → Store → Prop}, 3 ≤ m → most3 w → k + 5 < 2 ^ 40 → Stm k i S0 → Aft (k + 1) i S0 S → (∀ s d b S', SD s d → wfS s → htS s = 0 → Aft (k + 5) i S0 S' → Q d b S') → SW (sSeq (sSet 5 (mCall 14 [(mVar 0), (mFz (mLst [(mC (.str (txs "x"))), (mC (.str (txs "y2"))), (mC (.str (txs "eightsgn"))), (mC (.str (txs "z"))), (mC (.str (txs "nobody")))]))])) (sSeq (sSet 6 (mCall 14 [(mVar 0), (mFz (mLst [(mC (.int 0)), (mC (.int 1)), (mC (.int 7)), (mFz (mBin (h_bin .Sub) (.s 2) (.e (mC (.int 1))))), (mFz (mCall 13 [(mVar 0), (mVar 2)]))]))])) (sRet (mIf (mBin (cmpOp .Eq) (.e (mFz (mCall 13 [(mVar 0), (mC (.int 2))]))) (.e (mC (.int 0)))) (mTup [(mC (.str (txs "name"))), (mVar 5)]) (mTup [(mC (.str (txs "number"))), (mVar 6)])))) ⟨callM bd m, lam, m, loM bd m⟩ [.val (.ref i), .val (.int N), .val (.int w), .un, .un, .un, .un] S) K (fun d b _ S => Q d b S) (fun _ _ => False) (fun _ _ => False) fun c fs _ S => E c fs S := by
    intro N m lam S0 S Q E i k w K hm hw hk sv ha h
    have hi := sv.lt
    have hw0 : 0 < w ∧ w ≤ 1000000000 := by rcases hw with rfl | rfl | rfl <;> omega
    walk_at "mi go"
    refine p_pick (by omega) (k := k + 1) (by omega) (ha.stm hi) (by simp) (by decide) fun x hx S1 h1 => ?_
    have h1 := ha.trans h1
    walk_at "mi go"
    refine p_draw (by omega) (k := k + 1 + 1) (by omega) (h1.stm hi) hw0.1 (by omega) fun r S2 hr0 hr1 h2 => ?_
    have h2 := h1.trans h2
    walk_at "mi go"
    refine p_pick (by omega) (k := k + 1 + 1 + 1) (by omega) (h2.stm hi) (by simp) (by simp) fun y hy S3 h3 => ?_
    have h3 := h2.trans h3
    walk_at "mi go"
    refine p_draw (by omega) (k := k + 1 + 1 + 1 + 1) (by omega) (h3.stm hi) (by decide) (by decide) fun r2 S4 hr2 hr3 h4 => ?_
    have h4 := h3.trans h4
    walk_at "mi go"
    refine ite_i (fun hc => ?_) (fun hc => ?_)
    · have hx' : ∃ z, x = .str z ∧ nameT z = true ∧ z.length ≤ 20 := by
        simp only [List.mem_cons, List.not_mem_nil, or_false] at hx
        rcases hx with rfl | rfl | rfl | rfl | rfl
        all_goals exact ⟨_, rfl, by decide, by decide⟩
      obtain ⟨z, rfl, hz, hz2⟩ := hx'
      walk_at "mi go"
      exact h (.nam z) _ _ _ (.nam rfl) ⟨hz, hz2⟩ rfl h4
    · have hy' : ∃ z : Int, y = .int z ∧ 0 ≤ z ∧ z < 1000000000 := by
        simp only [List.mem_cons, List.not_mem_nil, or_false] at hy
        rcases hy with rfl | rfl | rfl | rfl | rfl
        · exact ⟨_, rfl, by omega, by omega⟩
        · exact ⟨_, rfl, by omega, by omega⟩
        · exact ⟨_, rfl, by omega, by omega⟩
        · exact ⟨w - 1, rfl, by omega, by omega⟩
        · exact ⟨r, rfl, by omega, by omega⟩
      obtain ⟨z, rfl, hz, hz2⟩ := hy'
      walk_at "mi go"
      exact h (.num z) _ _ _ (.num rfl) ⟨hz, hz2⟩ rfl h4
  induction N with
  | zero =>
    intro n lam S Q E i k w hn hw hk sv h
    obtain ⟨m, rfl⟩ : ∃ m, n = m + 1 := ⟨n - 1, by omega⟩; refine w__law_sum ?_; unfold m__law_sum
    refine s_seq (s_if ?_)
    walk_at "mi w"
    refine (leaf 0 (k := k) (by omega) hw (by have : cS 0 = 10 := rfl; omega) sv (sv.aft.mono (by omega)) fun s d b S' q1 q2 q3 q4 => ?_)
    exact h s d b S' q1 q2 (by omega) (q4.mono (by have : cS 0 = 10 := rfl; omega))
  | succ N ih =>
    intro n lam S Q E i k w hn hw hk sv h
    have hi := sv.lt
    have hcs : cS (N + 1) = 2 * cS N + 10 := rfl
    have hN : ((N + 1 : Nat) : Int) - 1 = ((N : Nat) : Int) := by omega
    obtain ⟨m, rfl⟩ : ∃ m, n = m + 1 := ⟨n - 1, by omega⟩; refine w__law_sum ?_; unfold m__law_sum
    refine s_seq (s_if ?_)
    walk_at "mi w"
    refine p_draw (by omega) (k := k) (by omega) sv (by decide) (by decide) fun r S1 hr0 hr1 h1 => ?_
    walk_at "mi w"
    refine ite_i (fun hc => ?_) (fun hc => ?_)
    · exact leaf (N + 1) (k := k) (by omega) hw (by omega) sv h1 fun s d b S' q1 q2 q3 q4 => h s d b S' q1 q2 (by omega) (q4.mono (by omega))
    · walk_at "mi go"
      refine p_draw (by omega) (k := k + 1) (by omega) (h1.stm hi) (by decide) (by decide) fun r2 S2 hr2 hr3 h2 => ?_
      have h2 := h1.trans h2
      walk_at "mi go"
      refine ite_i (fun hc2 => ?_) (fun hc2 => ?_)
      · walk_at "mi go"
        rw [hN]
        refine ih (k := k + 1 + 1) (by omega) hw (by omega) (h2.stm hi) fun s d b S3 q1 q2 q3 q4 => ?_
        walk_at "mi go"
        exact h (.les s) _ _ _ (.les rfl q1) q2 (by show htS s + 1 ≤ _; omega) ((h2.trans q4).mono (by omega))
      · have sg : ∃ ds : List D, ds ≠ [] ∧ ds.length < 1073741824 ∧ (∀ d ∈ ds, ∃ o, d = .str (opT o)) ∧ (((pMul S2 (.lst [.str (txs "*"), .str (txs "/"), .str (txs "~"), .str (txs "/"), .str (txs "~")]) (.int (bI (decide (w < 1001)))))).bind fun z => pAdd S2 (.lst [.str (txs "+"), .str (txs "-"), .str (txs "<"), .str (txs "<="), .str (txs "=")]) z.1) = some (.lst ds, true) := by
          have big : ∀ d ∈ ([.str (txs "+"), .str (txs "-"), .str (txs "<"), .str (txs "<="), .str (txs "="), .str (txs "*"), .str (txs "/"), .str (txs "~"), .str (txs "/"), .str (txs "~")] : List D), ∃ o, d = .str (opT o) := by
            intro d hd
            simp only [List.mem_cons, List.not_mem_nil, or_false] at hd
            rcases hd with rfl | rfl | rfl | rfl | rfl | rfl | rfl | rfl | rfl | rfl
            · exact ⟨.ad, rfl⟩
            · exact ⟨.sb, rfl⟩
            · exact ⟨.lt, rfl⟩
            · exact ⟨.le, rfl⟩
            · exact ⟨.eq, rfl⟩
            · exact ⟨.ml, rfl⟩
            · exact ⟨.dv, rfl⟩
            · exact ⟨.rm, rfl⟩
            · exact ⟨.dv, rfl⟩
            · exact ⟨.rm, rfl⟩
          cases hb : decide (w < 1001) with
          | false => exact ⟨[.str (txs "+"), .str (txs "-"), .str (txs "<"), .str (txs "<="), .str (txs "=")], by simp, by decide, fun d hd => big d (by simp only [List.mem_cons, List.not_mem_nil, or_false] at hd ⊢; rcases hd with h | h | h | h | h <;> simp [h]), rfl⟩
          | true => exact ⟨[.str (txs "+"), .str (txs "-"), .str (txs "<"), .str (txs "<="), .str (txs "="), .str (txs "*"), .str (txs "/"), .str (txs "~"), .str (txs "/"), .str (txs "~")], by simp, by decide, big, rfl⟩
        obtain ⟨ds, d1, d2, d3, d4⟩ := sg
        obtain ⟨z, e1, e2⟩ := Option.bind_eq_some_iff.mp d4
        walk_at "mi go"
        refine OW.some e1 ?_
        walk_at "mi go"
        refine OW.some e2 ?_
        walk_at "mi go"
        rw [hN]
        refine ih (k := k + 1 + 1) (by omega) hw (by omega) (h2.stm hi) fun s1 x1 b1 S3 q1 q2 q3 q4 => ?_
        have q4 := h2.trans q4
        cases b1
        all_goals
          walk_at "mi go"
          refine p_pick (by omega) (k := k + 1 + 1 + cS N) (by omega) (q4.stm hi) d1 d2 fun o ho S4 h5 => ?_
          have h5 := q4.trans h5
          obtain ⟨o, rfl⟩ := d3 o ho
          walk_at "mi go"
          rw [hN]
          refine ih (k := k + 1 + 1 + cS N + 1) (by omega) hw (by omega) (h5.stm hi) fun s2 x2 b2 S5 p1 p2 p3 p4 => ?_
          walk_at "mi go"
          exact h (.bin o s1 s2) _ _ _ (.bin rfl q1 p1) ⟨q2, p2⟩ (by show max (htS s1) (htS s2) + 1 ≤ _; omega) ((h5.trans p4).mono (by omega))

end
end Gx
set_option Elab.async false
set_option linter.all false
set_option maxRecDepth 100000
set_option maxHeartbeats 1000000
namespace Gx
open PySem Mi
local macro_rules | `(tactic| walk_at "mi go") => `(tactic| (repeat (first | ((with_reducible refine' putI ?e ?_); (case e => ((try dsimp only [List.set_cons_zero, List.set_cons_succ, slOf_f, slOf_t, wipeF, backF, Tg.put, putAll, List.getElem?_cons_zero, List.getElem?_cons_succ, Option.getD_some]); (try rfl)))) | ((with_reducible refine' OW.some ?e ?_); (case e => rfl)) | with_reducible refine w_ope ?_ | with_reducible refine w_c ?_ | with_reducible refine w_fz ?_ | with_reducible refine w_all1 ?_ | ((with_reducible refine' w_ops ?e ?_); (case e => rfl)) | ((with_reducible refine' w_at2 ?e1 ?e2 ?_); (case e1 => rfl); (case e2 => rfl)) | with_reducible refine w_bin ?_ | ((with_reducible refine' w_at1 ?e ?_); (case e => rfl)) | with_reducible refine w_all0 ?_ | with_reducible refine s_seq ?_ | with_reducible refine w_un ?_ | with_reducible refine s_if ?_ | ((with_reducible refine lenI ?e ?_); (case e => exact Nat.le_of_ble_eq_true rfl)) | ((with_reducible refine ite_F ?e ?_); (case e => rfl)) | ((with_reducible refine' w_var ?e ?_); (case e => rfl)) | with_reducible refine s_nx ?_ | with_reducible refine w_tup ?_ | ((with_reducible refine ite_T ?e ?_); (case e => rfl)) | with_reducible refine s_ret ?_ | with_reducible refine w_call ?_ | with_reducible refine w_truth ?_ | ((with_reducible refine' setI ?e ?_); (case e => ((try dsimp only [List.set_cons_zero, List.set_cons_succ, slOf_f, slOf_t, wipeF, backF, Tg.put, putAll, List.getElem?_cons_zero, List.getElem?_cons_succ, Option.getD_some]); (try rfl)))) | with_reducible refine w_ife ?_ | with_reducible refine s_set ?_ | with_reducible refine w_vl ?_ | with_reducible refine w_lst ?_ | with_reducible refine w_iter ?_ | with_reducible refine w_andV ?_ | ((with_reducible refine' s_retV ?e ?_); (case e => rfl)) | with_reducible refine s_for ?_ | ((with_reducible refine' w_mut ?e ?eL ?_); (case e => rfl); (case eL => rfl)) | with_reducible refine s_drop ?_ | with_reducible refine w_cut ?_ | with_reducible refine w_part ?_ | with_reducible refine w_nopart ?_ | with_reducible refine w_mcomp ?_ | with_reducible refine w_pure ?_ | with_reducible refine w_not ?_ | ((with_reducible refine' w_varO ?e ?_); (case e => rfl)) | with_reducible refine w_dct ?_ | with_reducible refine w_pairs0 ?_ | ((with_reducible refine kvsI ?e ?_); (case e => exact Nat.le_of_ble_eq_true rfl)) | ((with_reducible refine' s_retO ?e ?_); (case e => rfl)) | with_reducible refine w_notV ?_ | with_reducible refine w_or ?_ | with_reducible refine w_zip ?_ | with_reducible refine w_get ?_ | ((with_reducible refine' w_isD ?e ?_); (case e => rfl)) | ((with_reducible refine peI ?e ?_); (case e => exact ⟨_, rfl⟩)) | with_reducible refine w_range1 ?_ | with_reducible refine w_pairs1 ?_ | with_reducible refine s_par ?_ | with_reducible refine s_while ?_ | with_reducible refine s_put ?_ | with_reducible refine s_tup ?_ | with_reducible refine s_raise ?_ | with_reducible refine s_try ?_ | with_reducible refine s_retN ?_ | with_reducible refine s_bk ?_ | with_reducible refine s_ct ?_ | with_reducible refine w_chain ?_ | with_reducible refine w_and ?_ | with_reducible refine w_bl ?_ | with_reducible refine w_orV ?_ | with_reducible refine w_lstS ?_ | with_reducible refine w_callK ?_ | with_reducible refine w_meth1 ?_ | with_reducible refine w_enum ?_ | with_reducible refine w_opt ?_ | with_reducible refine w_range2 ?_ | with_reducible refine s_forD ?_ | with_reducible refine w_compD ?_ | ((with_reducible refine' w_isT ?e ?k ?_); (case e => rfl); (case k => rfl)) | ((with_reducible refine' w_ex ?e ?e2 ?_); (case e => rfl); (case e2 => rfl)) | ((with_reducible refine ltI ?e ?_); (case e => exact Nat.le_of_ble_eq_true rfl)))))
local macro_rules | `(tactic| walk_at "mi w") => `(tactic| (repeat (first | ((with_reducible refine' putI ?e ?_); (case e => ((try dsimp only [List.set_cons_zero, List.set_cons_succ, slOf_f, slOf_t, wipeF, backF, Tg.put, putAll, List.getElem?_cons_zero, List.getElem?_cons_succ, Option.getD_some]); (try rfl)))) | ((with_reducible refine' OW.some ?e ?_); (case e => rfl)) | with_reducible refine w_ope ?_ | with_reducible refine w_c ?_ | with_reducible refine w_fz ?_ | with_reducible refine w_all1 ?_ | ((with_reducible refine' w_ops ?e ?_); (case e => rfl)) | ((with_reducible refine' w_at2 ?e1 ?e2 ?_); (case e1 => rfl); (case e2 => rfl)) | with_reducible refine w_bin ?_ | ((with_reducible refine' w_at1 ?e ?_); (case e => rfl)) | with_reducible refine w_all0 ?_ | with_reducible refine w_un ?_ | ((with_reducible refine lenI ?e ?_); (case e => exact Nat.le_of_ble_eq_true rfl)) | ((with_reducible refine ite_F ?e ?_); (case e => rfl)) | ((with_reducible refine' w_var ?e ?_); (case e => rfl)) | with_reducible refine w_tup ?_ | ((with_reducible refine ite_T ?e ?_); (case e => rfl)) | with_reducible refine w_call ?_ | with_reducible refine w_truth ?_ | ((with_reducible refine' setI ?e ?_); (case e => ((try dsimp only [List.set_cons_zero, List.set_cons_succ, slOf_f, slOf_t, wipeF, backF, Tg.put, putAll, List.getElem?_cons_zero, List.getElem?_cons_succ, Option.getD_some]); (try rfl)))) | with_reducible refine w_ife ?_ | with_reducible refine w_vl ?_ | with_reducible refine w_lst ?_ | with_reducible refine w_iter ?_ | with_reducible refine w_andV ?_ | ((with_reducible refine' w_mut ?e ?eL ?_); (case e => rfl); (case eL => rfl)) | with_reducible refine w_cut ?_ | with_reducible refine w_part ?_ | with_reducible refine w_nopart ?_ | with_reducible refine w_mcomp ?_ | with_reducible refine w_pure ?_ | with_reducible refine w_not ?_ | ((with_reducible refine' w_varO ?e ?_); (case e => rfl)) | with_reducible refine w_dct ?_ | with_reducible refine w_pairs0 ?_ | ((with_reducible refine kvsI ?e ?_); (case e => exact Nat.le_of_ble_eq_true rfl)) | with_reducible refine w_notV ?_ | with_reducible refine w_or ?_ | with_reducible refine w_zip ?_ | with_reducible refine w_get ?_ | ((with_reducible refine' w_isD ?e ?_); (case e => rfl)) | ((with_reducible refine peI ?e ?_); (case e => exact ⟨_, rfl⟩)) | with_reducible refine w_range1 ?_ | with_reducible refine w_pairs1 ?_ | with_reducible refine w_chain ?_ | with_reducible refine w_and ?_ | with_reducible refine w_bl ?_ | with_reducible refine w_orV ?_ | with_reducible refine w_lstS ?_ | with_reducible refine w_callK ?_ | with_reducible refine w_meth1 ?_ | with_reducible refine w_enum ?_ | with_reducible refine w_opt ?_ | with_reducible refine w_range2 ?_ | with_reducible refine w_compD ?_ | ((with_reducible refine' w_isT ?e ?k ?_); (case e => rfl); (case k => rfl)) | ((with_reducible refine' w_ex ?e ?e2 ?_); (case e => rfl); (case e2 => rfl)) | ((with_reducible refine ltI ?e ?_); (case e => exact Nat.le_of_ble_eq_true rfl)))))
section
variable {n : Nat} {lam : Store → CR} {S : Store} {Q : D → Bool → Store → Prop} {E : Nat → List (Tx × D) → Store → Prop}
def TxOK (d : D) : Prop := ∃ t, d = .str t ∧ t.length ≤ 20 ∧ textT t = true ∧ ∀ v, numT t = some v → v.natAbs < 2 ^ 32
theorem txok_n {t : Tx} (h1 : t.length ≤ 20) (h2 : textT t = true) (h3 : numT t = none) : TxOK (.str t) := ⟨t, rfl, h1, h2, fun v hv => by rw [h3] at hv; cases hv⟩
theorem txok_s {t : Tx} {u : Int} (h1 : t.length ≤ 20) (h2 : textT t = true) (h3 : numT t = some u) (h4 : u.natAbs < 2 ^ 32) : TxOK (.str t) := ⟨t, rfl, h1, h2, fun v hv => by rw [h3] at hv; cases hv; exact h4⟩
theorem dig_sign {c : Nat} (h : 48 ≤ c ∧ c ≤ 57) : c ∈ SIGNSc := by
  have key : ∀ i, i < 10 → 48 + i ∈ SIGNSc := by decide
  have := key (c - 48) (by omega)
  rwa [show 48 + (c - 48) = c by omega] at this
theorem numL_text (k : Nat) : textT (TL.numL k) = true := by
  unfold textT
  refine List.all_eq_true.mpr fun c hc => ?_
  rw [decide_eq_true (dig_sign (TL.numL_digits k c hc))]
  rfl
theorem numL_digB (k : Nat) : digB (TL.numL k) = true := List.all_eq_true.mpr fun c hc => decide_eq_true (dig_iff.mpr (TL.numL_digits k c hc))
theorem numT_numL (k : Nat) : numT (TL.numL k) = some (k : Int) := by
  have hv := TL.numL_val k
  have hb := numL_digB k
  have hd := TL.numL_digits k
  cases e : TL.numL k with
  | nil => exact absurd e (TL.numL_ne k)
  | cons c r =>
    rw [e] at hv hb hd
    have h45 : c ≠ 45 := by have := hd c List.mem_cons_self; omega
    rw [numT_o _ h45, if_pos hb, hv]
theorem numT_neg (k : Nat) : numT (45 :: TL.numL k) = some (-(k : Int)) := by rw [numT_m, if_pos ⟨TL.numL_ne k, numL_digB k⟩, TL.numL_val]
theorem bStr_num {r : Int} (h0 : 0 ≤ r) (h1 : r < 1000000000) : bStr S (.int r) = some (.str (TL.numL r.toNat), false) := by
  have hl : r.natAbs.log2 < 1920 := by
    by_cases h : r.natAbs = 0
    · rw [h]; decide
    · have := (Nat.log2_lt h).mpr (show r.natAbs < 2 ^ 40 by omega)
      omega
  show (if r.natAbs.log2 < 1920 then some (D.str (PySem.Str.ofString (toString r)).cps.toList, false) else none) = _
  rw [if_pos hl]
  have e : r = ((r.toNat : Nat) : Int) := by omega
  have e2 := TL.tl_num r.toNat
  rw [← e] at e2
  exact congrArg (fun z => some (D.str z, false)) e2
theorem numL_short {r : Int} (h0 : 0 ≤ r) (h1 : r < 1000000000) : (TL.numL r.toNat).length ≤ 9 := TL.numL_len (by decide) (by omega)
theorem put_new {kvs : List (Ky × D)} {k : Ky} {v : D} (h : k ∉ kvs.map (·.1)) : putKy kvs k v = kvs ++ [(k, v)] := by
  unfold putKy
  rw [if_neg]
  intro hc
  obtain ⟨kv, h1, h2⟩ := List.any_eq_true.mp hc
  exact h (List.mem_map.mpr ⟨kv, h1, of_decide_eq_true h2⟩)
structure HK (kvs : List (Ky × D)) : Prop where
  nd : (kvs.map (·.1)).Nodup
  it : ∀ kv ∈ kvs, (∃ x, kv.1 = .s x ∧ nameT x = true ∧ x.length ≤ 20) ∧ TxOK kv.2
  len : kvs.length ≤ 4
theorem cut_take {α : Type} (x : List α) (v : Option Int) : cut x none v = x.take (sIx x.length x.length v) := by
  unfold cut
  show (x.drop 0).take _ = _
  rfl
theorem p_held {i k : Nat} {w : Int} (hn : 3 ≤ n) (hw : most3 w) (hk : k + 30 < 2 ^ 40) (sv : Stm k i S) (h : ∀ kvs b S', HK kvs → Aft (k + 30) i S S' → Q (.dct kvs) b S') : CW (callM bd n 20 [.val (.ref i), .val (.int w)] lam S) Q E := by
  have hi := sv.lt
  have hw0 : 0 < w ∧ w ≤ 1000000000 := by rcases hw with rfl | rfl | rfl <;> omega
  have nmOK : ∀ d ∈ ([.str (txs "x"), .str (txs "y2"), .str (txs "eightsgn"), .str (txs "z")] : List D), ∃ x, d = .str x ∧ nameT x = true ∧ x.length ≤ 20 := by
    intro d hd
    simp only [List.mem_cons, List.not_mem_nil, or_false] at hd
    rcases hd with rfl | rfl | rfl | rfl
    all_goals exact ⟨_, rfl, by decide, by decide⟩
  have nmND : ([.str (txs "x"), .str (txs "y2"), .str (txs "eightsgn"), .str (txs "z")] : List D).Nodup := by
    have key : ([txs "x", txs "y2", txs "eightsgn", txs "z"] : List Tx).Nodup := by decide
    have e : ([.str (txs "x"), .str (txs "y2"), .str (txs "eightsgn"), .str (txs "z")] : List D) = [txs "x", txs "y2", txs "eightsgn", txs "z"].map D.str := rfl
    rw [e]
    exact List.Pairwise.map _ (fun a b hab e => hab (by cases e; rfl)) key
  obtain ⟨m, rfl⟩ : ∃ m, n = m + 1 := ⟨n - 1, by omega⟩; refine w__law_held ?_; unfold m__law_held
  walk_at "mi go"
  refine p_mixed (by omega) (k := k) (by show k + 4 < _; omega) sv (by decide) ?_ fun es b S1 hp h1 => ?_
  · intro d hd
    obtain ⟨x, rfl, hx, _⟩ := nmOK d hd
    exact ⟨canLay_name hx, by simp [dDp]⟩
  walk_at "mi go"
  refine p_pick (by omega) (k := k + 4) (by omega) (h1.stm hi) (by simp) (by decide) fun v hv S2 h2 => ?_
  have h2 := h1.trans h2
  obtain ⟨v, rfl⟩ : ∃ z : Int, v = .int z := by
    simp only [List.mem_cons, List.not_mem_nil, or_false] at hv
    rcases hv with rfl | rfl | rfl | rfl
    all_goals exact ⟨_, rfl⟩
  walk_at "mi go"
  have hes : es.length = 4 := hp.length_eq
  have hsub : ∀ d ∈ cut es none (some v), d ∈ es := fun d hd => by rw [cut_take] at hd; exact List.mem_of_mem_take hd
  have hnd : (cut es none (some v)).Nodup := by
    rw [cut_take]
    exact (hp.nodup_iff.mpr nmND).sublist (List.take_sublist _ _)
  have hlen : (cut es none (some v)).length ≤ 4 := by rw [cut_take, List.length_take, hes]; omega
  refine w_loop (fun pre post f S' => ∃ kvs : List (Ky × D), kvs.map (fun kv => kyD kv.1) = pre ∧ (∀ kv ∈ kvs, TxOK kv.2) ∧ Aft (k + 5 + 4 * pre.length) i S S' ∧ ∃ x3 x4 x5 x6, f = [.val (.ref i), .val (.int w), .own (.dct kvs), x3, x4, x5, x6]) ⟨[], rfl, fun kv h => (nomatch h), h2.mono (by simp only [List.length_nil]; omega), _, _, _, _, rfl⟩ ?_ ?_
  · intro pre d post f S3 hds ⟨kvs, e1, e2, h3, x3, x4, x5, x6, hf⟩
    subst hf
    have hm : d ∈ cut es none (some v) := by rw [hds]; exact List.mem_append_right _ List.mem_cons_self
    obtain ⟨x, rfl, hx1, hx2⟩ := nmOK d (hp.subset (hsub d hm))
    have hpl : pre.length ≤ 3 := by rw [hds, List.length_append, List.length_cons] at hlen; omega
    have hkl : kvs.length = pre.length := by rw [← e1, List.length_map]
    have hfresh : Ky.s x ∉ kvs.map (·.1) := by
      intro hc
      obtain ⟨kv, k1, k2⟩ := List.mem_map.mp hc
      have : D.str x ∈ pre := by rw [← e1]; exact List.mem_map.mpr ⟨kv, k1, by rw [k2]; rfl⟩
      rw [hds] at hnd
      exact (List.nodup_append.mp hnd).2.2 _ this _ List.mem_cons_self rfl
    walk_at "mi go"
    refine p_draw (by omega) (k := k + 5 + 4 * pre.length) (by omega) (h3.stm hi) hw0.1 (by omega) fun r S4 hr0 hr1 h4 => ?_
    have h4 := h3.trans h4
    have hr2 : r < 1000000000 := by omega
    have hsh := numL_short hr0 hr2
    walk_at "mi go"
    refine OW.some (bStr_num hr0 hr2) ?_
    walk_at "mi go"
    refine OW.some (bStr_num hr0 hr2) ?_
    walk_at "mi go"
    refine OW.some (bStr_num hr0 hr2) ?_
    walk_at "mi go"
    refine OW.some (if_pos (show (txs "-").length + (TL.numL r.toNat).length ≤ LIM by show 1 + _ ≤ 16777216; omega)) ?_
    walk_at "mi go"
    refine OW.some (bStr_num (r := w - 1) (by omega) (by omega)) ?_
    walk_at "mi go"
    refine OW.some (if_pos (show (TL.numL (w - 1).toNat).length ≤ LIM by have := numL_short (r := w - 1) (by omega) (by omega); show _ ≤ 16777216; omega)) ?_
    walk_at "mi go"
    refine p_pick (by omega) (k := k + 5 + 4 * pre.length + 1) (by omega) (h4.stm hi) (by simp) (by decide) fun od hod S5 h5 => ?_
    have h5 := h4.trans h5
    have odOK : TxOK od := by
      simp only [List.mem_cons, List.not_mem_nil, or_false] at hod
      rcases hod with rfl | rfl | rfl | rfl | rfl | rfl | rfl | rfl | rfl
      all_goals exact txok_n (by decide) (by decide) (by decide)
    walk_at "mi go"
    refine p_draw (by omega) (k := k + 5 + 4 * pre.length + 1 + 1) (by omega) (h5.stm hi) (by decide) (by decide) fun r2 S6 hr3 hr4 h6 => ?_
    have h6 := h5.trans h6
    have fin : ∀ (z : D) (S7 : Store), TxOK z → Aft (k + 5 + 4 * pre.length + 4) i S S7 → ∃ kvs', kvs'.map (fun kv => kyD kv.1) = pre ++ [.str x] ∧ (∀ kv ∈ kvs', TxOK kv.2) ∧ Aft (k + 5 + 4 * (pre ++ [D.str x]).length) i S S7 ∧ kvs' = putKy kvs (.s x) z := by
      intro z S7 hz h7
      refine ⟨kvs ++ [(.s x, z)], by rw [List.map_append, e1]; rfl, fun kv hkv => ?_, h7.mono (by rw [List.length_append]; simp only [List.length_cons, List.length_nil]; omega), (put_new hfresh).symm⟩
      rcases List.mem_append.mp hkv with hkv | hkv
      · exact e2 kv hkv
      · rw [List.mem_singleton] at hkv
        subst hkv
        exact hz
    have hput : kvs.length < LIM := by show _ < 16777216; omega
    walk_at "mi go"
    refine ite_i (fun hc => ?_) (fun hc => ?_)
    · walk_at "mi go"
      refine OW.some (if_pos hput) ?_
      walk_at "mi go"
      obtain ⟨kvs', f1, f2, f3, f4⟩ := fin od S6 odOK (h6.mono (by omega))
      exact ⟨kvs', f1, f2, f3, _, _, _, _, by rw [f4]; rfl⟩
    · walk_at "mi go"
      refine p_pick (by omega) (k := k + 5 + 4 * pre.length + 1 + 1 + 1) (by omega) (h6.stm hi) (by simp) (by simp) fun z hz S7 h7 => ?_
      have h7 := h6.trans h7
      have zOK : TxOK z := by
        simp only [List.mem_cons, List.not_mem_nil, or_false] at hz
        have n1 : TxOK (.str (TL.numL r.toNat)) := txok_s (by omega) (numL_text _) (numT_numL _) (by omega)
        rcases hz with rfl | rfl | rfl | rfl | rfl | rfl | rfl
        · exact n1
        · exact n1
        · refine txok_s (t := txs "-" ++ TL.numL r.toNat) ?_ ?_ (numT_neg r.toNat) (by omega)
          · rw [List.length_append]; show 1 + _ ≤ 20; omega
          · unfold textT
            rw [List.all_append]
            have := numL_text r.toNat
            unfold textT at this
            rw [this]
            decide
        · exact txok_s (u := 0) (by decide) (by decide) (by decide) (by decide)
        · exact txok_s (u := 0) (by decide) (by decide) (by decide) (by decide)
        · exact txok_s (u := 0) (by decide) (by decide) (by decide) (by decide)
        · rw [cut_take]
          have all : ∀ j, TxOK (.str ((txs "007").take j)) := by
            intro j
            match j with
            | 0 => exact txok_s (u := 0) (by decide) (by decide) (by decide) (by decide)
            | 1 => exact txok_s (u := 0) (by decide) (by decide) (by decide) (by decide)
            | 2 => exact txok_s (u := 0) (by decide) (by decide) (by decide) (by decide)
            | j + 3 =>
              have e : (txs "007").take (j + 3) = txs "007" := List.take_of_length_le (by show 3 ≤ _; omega)
              rw [e]
              exact txok_s (u := 7) (by decide) (by decide) (by decide) (by decide)
          exact all _
      walk_at "mi go"
      refine OW.some (if_pos hput) ?_
      walk_at "mi go"
      obtain ⟨kvs', f1, f2, f3, f4⟩ := fin z S7 zOK (h7.mono (by omega))
      exact ⟨kvs', f1, f2, f3, _, _, _, _, by rw [f4]; rfl⟩
  · intro f S3 ⟨kvs, e1, e2, h3, x3, x4, x5, x6, hf⟩
    subst hf
    walk_at "mi go"
    refine h kvs true S3 ⟨?_, ?_, ?_⟩ (h3.mono (by omega))
    · have hnd2 : (kvs.map (fun kv => kyD kv.1)).Nodup := by rw [e1]; exact hnd
      have e3 : kvs.map (fun kv => kyD kv.1) = (kvs.map (·.1)).map kyD := by rw [List.map_map]; rfl
      rw [e3] at hnd2
      exact (List.pairwise_map.mp hnd2).imp fun hab e => hab (by rw [e])
    · intro kv hkv
      refine ⟨?_, e2 kv hkv⟩
      have hm : kyD kv.1 ∈ cut es none (some v) := by rw [← e1]; exact List.mem_map.mpr ⟨kv, hkv, rfl⟩
      obtain ⟨x, hx, hx1, hx2⟩ := nmOK _ (hp.subset (hsub _ hm))
      cases hk : kv.1 with
      | i z => rw [hk] at hx; cases hx
      | s y => rw [hk] at hx; cases hx; exact ⟨_, rfl, hx1, hx2⟩
    · have := congrArg List.length e1
      rw [List.length_map] at this
      omega

end
end Gx
set_option Elab.async false
set_option linter.all false
set_option maxRecDepth 100000
set_option maxHeartbeats 1000000
namespace Gx
open PySem Mi
local macro_rules | `(tactic| walk_at "mi go") => `(tactic| (repeat (first | ((with_reducible refine' putI ?e ?_); (case e => ((try dsimp only [List.set_cons_zero, List.set_cons_succ, slOf_f, slOf_t, wipeF, backF, Tg.put, putAll, List.getElem?_cons_zero, List.getElem?_cons_succ, Option.getD_some]); (try rfl)))) | ((with_reducible refine' OW.some ?e ?_); (case e => rfl)) | with_reducible refine w_ope ?_ | with_reducible refine w_c ?_ | with_reducible refine w_fz ?_ | with_reducible refine w_all1 ?_ | ((with_reducible refine' w_ops ?e ?_); (case e => rfl)) | ((with_reducible refine' w_at2 ?e1 ?e2 ?_); (case e1 => rfl); (case e2 => rfl)) | with_reducible refine w_bin ?_ | ((with_reducible refine' w_at1 ?e ?_); (case e => rfl)) | with_reducible refine w_all0 ?_ | with_reducible refine s_seq ?_ | with_reducible refine w_un ?_ | with_reducible refine s_if ?_ | ((with_reducible refine lenI ?e ?_); (case e => exact Nat.le_of_ble_eq_true rfl)) | ((with_reducible refine ite_F ?e ?_); (case e => rfl)) | ((with_reducible refine' w_var ?e ?_); (case e => rfl)) | with_reducible refine s_nx ?_ | with_reducible refine w_tup ?_ | ((with_reducible refine ite_T ?e ?_); (case e => rfl)) | with_reducible refine s_ret ?_ | with_reducible refine w_call ?_ | with_reducible refine w_truth ?_ | ((with_reducible refine' setI ?e ?_); (case e => ((try dsimp only [List.set_cons_zero, List.set_cons_succ, slOf_f, slOf_t, wipeF, backF, Tg.put, putAll, List.getElem?_cons_zero, List.getElem?_cons_succ, Option.getD_some]); (try rfl)))) | with_reducible refine w_ife ?_ | with_reducible refine s_set ?_ | with_reducible refine w_vl ?_ | with_reducible refine w_lst ?_ | with_reducible refine w_iter ?_ | with_reducible refine w_andV ?_ | ((with_reducible refine' s_retV ?e ?_); (case e => rfl)) | with_reducible refine s_for ?_ | ((with_reducible refine' w_mut ?e ?eL ?_); (case e => rfl); (case eL => rfl)) | with_reducible refine s_drop ?_ | with_reducible refine w_cut ?_ | with_reducible refine w_part ?_ | with_reducible refine w_nopart ?_ | with_reducible refine w_mcomp ?_ | with_reducible refine w_pure ?_ | with_reducible refine w_not ?_ | ((with_reducible refine' w_varO ?e ?_); (case e => rfl)) | with_reducible refine w_dct ?_ | with_reducible refine w_pairs0 ?_ | ((with_reducible refine kvsI ?e ?_); (case e => exact Nat.le_of_ble_eq_true rfl)) | ((with_reducible refine' s_retO ?e ?_); (case e => rfl)) | with_reducible refine w_notV ?_ | with_reducible refine w_or ?_ | with_reducible refine w_zip ?_ | with_reducible refine w_get ?_ | ((with_reducible refine' w_isD ?e ?_); (case e => rfl)) | ((with_reducible refine peI ?e ?_); (case e => exact ⟨_, rfl⟩)) | with_reducible refine w_range1 ?_ | with_reducible refine w_pairs1 ?_ | with_reducible refine s_par ?_ | with_reducible refine s_while ?_ | with_reducible refine s_put ?_ | with_reducible refine s_tup ?_ | with_reducible refine s_raise ?_ | with_reducible refine s_try ?_ | with_reducible refine s_retN ?_ | with_reducible refine s_bk ?_ | with_reducible refine s_ct ?_ | with_reducible refine w_chain ?_ | with_reducible refine w_and ?_ | with_reducible refine w_bl ?_ | with_reducible refine w_orV ?_ | with_reducible refine w_lstS ?_ | with_reducible refine w_callK ?_ | with_reducible refine w_meth1 ?_ | with_reducible refine w_enum ?_ | with_reducible refine w_opt ?_ | with_reducible refine w_range2 ?_ | with_reducible refine s_forD ?_ | with_reducible refine w_compD ?_ | ((with_reducible refine' w_isT ?e ?k ?_); (case e => rfl); (case k => rfl)) | ((with_reducible refine' w_ex ?e ?e2 ?_); (case e => rfl); (case e2 => rfl)) | ((with_reducible refine ltI ?e ?_); (case e => exact Nat.le_of_ble_eq_true rfl)))))
local macro_rules | `(tactic| walk_at "mi w") => `(tactic| (repeat (first | ((with_reducible refine' putI ?e ?_); (case e => ((try dsimp only [List.set_cons_zero, List.set_cons_succ, slOf_f, slOf_t, wipeF, backF, Tg.put, putAll, List.getElem?_cons_zero, List.getElem?_cons_succ, Option.getD_some]); (try rfl)))) | ((with_reducible refine' OW.some ?e ?_); (case e => rfl)) | with_reducible refine w_ope ?_ | with_reducible refine w_c ?_ | with_reducible refine w_fz ?_ | with_reducible refine w_all1 ?_ | ((with_reducible refine' w_ops ?e ?_); (case e => rfl)) | ((with_reducible refine' w_at2 ?e1 ?e2 ?_); (case e1 => rfl); (case e2 => rfl)) | with_reducible refine w_bin ?_ | ((with_reducible refine' w_at1 ?e ?_); (case e => rfl)) | with_reducible refine w_all0 ?_ | with_reducible refine w_un ?_ | ((with_reducible refine lenI ?e ?_); (case e => exact Nat.le_of_ble_eq_true rfl)) | ((with_reducible refine ite_F ?e ?_); (case e => rfl)) | ((with_reducible refine' w_var ?e ?_); (case e => rfl)) | with_reducible refine w_tup ?_ | ((with_reducible refine ite_T ?e ?_); (case e => rfl)) | with_reducible refine w_call ?_ | with_reducible refine w_truth ?_ | ((with_reducible refine' setI ?e ?_); (case e => ((try dsimp only [List.set_cons_zero, List.set_cons_succ, slOf_f, slOf_t, wipeF, backF, Tg.put, putAll, List.getElem?_cons_zero, List.getElem?_cons_succ, Option.getD_some]); (try rfl)))) | with_reducible refine w_ife ?_ | with_reducible refine w_vl ?_ | with_reducible refine w_lst ?_ | with_reducible refine w_iter ?_ | with_reducible refine w_andV ?_ | ((with_reducible refine' w_mut ?e ?eL ?_); (case e => rfl); (case eL => rfl)) | with_reducible refine w_cut ?_ | with_reducible refine w_part ?_ | with_reducible refine w_nopart ?_ | with_reducible refine w_mcomp ?_ | with_reducible refine w_pure ?_ | with_reducible refine w_not ?_ | ((with_reducible refine' w_varO ?e ?_); (case e => rfl)) | with_reducible refine w_dct ?_ | with_reducible refine w_pairs0 ?_ | ((with_reducible refine kvsI ?e ?_); (case e => exact Nat.le_of_ble_eq_true rfl)) | with_reducible refine w_notV ?_ | with_reducible refine w_or ?_ | with_reducible refine w_zip ?_ | with_reducible refine w_get ?_ | ((with_reducible refine' w_isD ?e ?_); (case e => rfl)) | ((with_reducible refine peI ?e ?_); (case e => exact ⟨_, rfl⟩)) | with_reducible refine w_range1 ?_ | with_reducible refine w_pairs1 ?_ | with_reducible refine w_chain ?_ | with_reducible refine w_and ?_ | with_reducible refine w_bl ?_ | with_reducible refine w_orV ?_ | with_reducible refine w_lstS ?_ | with_reducible refine w_callK ?_ | with_reducible refine w_meth1 ?_ | with_reducible refine w_enum ?_ | with_reducible refine w_opt ?_ | with_reducible refine w_range2 ?_ | with_reducible refine w_compD ?_ | ((with_reducible refine' w_isT ?e ?k ?_); (case e => rfl); (case k => rfl)) | ((with_reducible refine' w_ex ?e ?e2 ?_); (case e => rfl); (case e2 => rfl)) | ((with_reducible refine ltI ?e ?_); (case e => exact Nat.le_of_ble_eq_true rfl)))))
section
variable {n : Nat} {lam : Store → CR} {S : Store} {Q : D → Bool → Store → Prop} {E : Nat → List (Tx × D) → Store → Prop}
theorem text_small {t : Tx} (h : textT t = true) : ∀ c ∈ t, c < 0x110000 := fun c hc => by
  have key : ∀ c ∈ SIGNSc, c < 0x110000 := by decide
  unfold textT at h
  have := List.all_eq_true.mp h c hc
  rcases Bool.or_eq_true_iff.mp this with z | z
  · exact key c (of_decide_eq_true z)
  · rw [of_decide_eq_true z]; decide
theorem name_small {t : Tx} (h : nameT t = true) : ∀ c ∈ t, c < 0x110000 := fun c hc => by
  have key : ∀ c ∈ LATERc, c < 0x110000 := by decide
  unfold nameT at h
  have h4 := (Bool.and_eq_true_iff.mp (Bool.and_eq_true_iff.mp (Bool.and_eq_true_iff.mp h).2).2).2
  exact key c (of_decide_eq_true (List.all_eq_true.mp h4 c hc))
theorem dQ_small {t : Tx} (h : ∀ c ∈ t, c < 0x110000) : dQ (.str t) = true := dQ_str (List.all_eq_true.mpr fun c hc => decide_eq_true (h c hc))
theorem dOk_small {t : Tx} (h : ∀ c ∈ t, c < 0x110000) : dOk (.str t) = true := by
  unfold dOk
  exact List.all_eq_true.mpr fun c hc => decide_eq_true (Nat.lt_of_lt_of_le (h c hc) (by decide))
theorem kOk_small {t : Tx} (h : ∀ c ∈ t, c < 0x110000) : kOk (.s t) = true := by
  unfold kOk
  exact List.all_eq_true.mpr fun c hc => decide_eq_true (Nat.lt_of_lt_of_le (h c hc) (by decide))
section
variable {kvs : List (Ky × D)}
theorem HK.ok (h : HK kvs) : HeldOK kvs := fun x d e => by
  obtain ⟨_, t, rfl, h1, h2, h3⟩ := h.it _ (valK_mem e)
  exact ⟨t, rfl, by omega, h3⟩
theorem HK.sp (h : HK kvs) : ∀ kv ∈ kvs, dPl kv.2 = true ∧ lenOK (kyD kv.1) ∧ lenOK kv.2 := fun kv hkv => by
  obtain ⟨⟨x, e1, h1, h2⟩, t, e2, h3, h4, h5⟩ := h.it kv hkv
  rw [e1, e2]
  refine ⟨rfl, fun y e => ?_, fun y e => ?_⟩
  · cases e; show _ ≤ 16777216; omega
  · cases e; show _ ≤ 16777216; omega
theorem HK.pl (h : HK kvs) : dPl (.dct kvs) = true := by
  have key : ∀ {l : List (Ky × D)}, (∀ kv ∈ l, dPl kv.2 = true) → dPlk l = true := by
    intro l
    induction l with
    | nil => intro _; rfl
    | cons kv l ih =>
      intro hh
      obtain ⟨k, d⟩ := kv
      unfold dPlk
      have z : dPl d = true := hh (k, d) List.mem_cons_self
      rw [z, ih fun e he => hh e (List.mem_cons_of_mem _ he)]
      rfl
  have hl := h.len
  have e : dPl (.dct kvs) = (decide (kvs.length ≤ LIM) && dPlk kvs) := by simp only [dPl]
  rw [e, key fun kv hkv => (h.sp kv hkv).1, decide_eq_true (show kvs.length ≤ LIM by show _ ≤ 16777216; omega)]
  rfl
theorem HK.vb (h : HK kvs) : valB (.dct kvs) = true := by
  show kvs.all kvB = true
  refine List.all_eq_true.mpr fun kv hkv => ?_
  obtain ⟨⟨x, e1, h1, h2⟩, t, e2, h3, h4, h5⟩ := h.it kv hkv
  unfold kvB
  rw [e1, e2]
  show (nameT x && textT t) = true
  rw [h1, h4]
  rfl
theorem HK.perm {kvs' : List (Ky × D)} (h : HK kvs) (hp : kvs'.Perm kvs) : HK kvs' := ⟨(hp.map _).nodup_iff.mpr h.nd, fun kv hkv => h.it kv (hp.subset hkv), by rw [hp.length_eq]; exact h.len⟩
theorem HK.gT {kvs' : List (Ky × D)} (h : HK kvs) (hp : kvs'.Perm kvs) (x : Tx) : gT kvs' x = gT kvs x := by unfold Gx.gT; rw [valK_perm h.nd hp]
theorem HK.items (h : HK kvs) : ∀ d ∈ itItems kvs, dQ d = true ∧ dDp d ≤ 60 := fun d hd => by
  obtain ⟨kv, hkv, rfl⟩ := List.mem_map.mp hd
  obtain ⟨⟨x, e1, h1, h2⟩, t, e2, h3, h4, h5⟩ := h.it kv hkv
  rw [e1, e2]
  refine ⟨?_, ?_⟩
  · show (dQ (.str x) && (dQ (.str t) && true)) = true
    rw [dQ_small (name_small h1), dQ_small (text_small h4)]
    rfl
  · show dDp (.tup [.str x, .str t]) ≤ 60
    simp only [dDp, dDps]
    omega
theorem HK.dok (h : HK kvs) : dOk (.dct kvs) = true ∧ dWt (.dct kvs) ≤ 200 ∧ dDp (.dct kvs) ≤ 1 := by
  have key : ∀ {l : List (Ky × D)}, (∀ kv ∈ l, (∃ x, kv.1 = .s x ∧ nameT x = true ∧ x.length ≤ 20) ∧ TxOK kv.2) → dOkk l = true ∧ dWtk l ≤ 42 * l.length ∧ dDpk l = 0 := by
    intro l
    induction l with
    | nil => intro _; exact ⟨rfl, Nat.le_refl _, rfl⟩
    | cons kv l ih =>
      intro hh
      obtain ⟨k, d⟩ := kv
      obtain ⟨i1, i2, i3⟩ := ih fun e he => hh e (List.mem_cons_of_mem _ he)
      obtain ⟨⟨x, e1, h1, h2⟩, t, e2, h3, h4, h5⟩ := hh (k, d) List.mem_cons_self
      have e1 : k = .s x := e1
      have e2 : d = .str t := e2
      subst e1 e2
      refine ⟨?_, ?_, ?_⟩
      · simp only [dOkk, kOk_small (name_small h1), dOk_small (text_small h4), i1, Bool.and_self]
      · simp only [dWtk, kWt, dWt, List.length_cons]; omega
      · simp only [dDpk, dDp, i3]; omega
  obtain ⟨i1, i2, i3⟩ := key h.it
  have hl := h.len
  refine ⟨by simp only [dOk]; exact i1, by simp only [dWt]; omega, by simp only [dDp]; omega⟩
end
theorem opT_small (o : Op8) : ∀ c ∈ opT o, c < 0x110000 := by cases o <;> decide
theorem opT_len (o : Op8) : (opT o).length ≤ 2 := by cases o <;> decide
theorem SD.dok {s : Sm} {d : D} (h : SD s d) : wfS s → dOk d = true ∧ dWt d + 10 ≤ 70 * 2 ^ htS s ∧ dDp d ≤ htS s + 1 := by
  have st : ∀ {d : D} {ds : List D}, sqOf d = some ds → dOk d = dOks ds ∧ dWt d = dWts ds ∧ dDp d = dDps ds + 1 := by
    intro d ds h
    rcases sq_cases h with rfl | rfl <;> (simp only [dOk, dWt, dDp]; exact ⟨trivial, trivial, trivial⟩)
  induction h with
  | num h =>
    intro hw
    obtain ⟨h1, h2, h3⟩ := st h
    have w1 := hw.1
    have w2 := hw.2
    have o1 : dOk (.str (txs "number")) = true := dOk_small (by decide)
    have l1 : (txs "number").length = 6 := rfl
    rename_i k _
    have o2 : dOk (.int k) = true := by unfold dOk; exact decide_eq_true (by omega)
    rw [h1, h2, h3]
    simp only [dOks, dWts, dDps, o1, o2, dWt, dDp, htS, l1, Bool.and_self]
    refine ⟨trivial, by omega, by omega⟩
  | nam h =>
    intro hw
    obtain ⟨h1, h2, h3⟩ := st h
    have w1 := hw.1
    have w2 := hw.2
    have o1 : dOk (.str (txs "name")) = true := dOk_small (by decide)
    have l1 : (txs "name").length = 4 := rfl
    rw [h1, h2, h3]
    simp only [dOks, dWts, dDps, o1, dOk_small (name_small w1), dWt, dDp, htS, l1, Bool.and_self]
    refine ⟨trivial, by omega, by omega⟩
  | les h _ ih =>
    intro hw
    obtain ⟨h1, h2, h3⟩ := st h
    obtain ⟨i1, i2, i3⟩ := ih hw
    have o1 : dOk (.str (txs "less")) = true := dOk_small (by decide)
    have l1 : (txs "less").length = 4 := rfl
    rw [h1, h2, h3]
    simp only [dOks, dWts, dDps, o1, i1, dWt, dDp, htS, l1, Bool.and_self, Nat.pow_succ]
    refine ⟨trivial, by omega, by omega⟩
  | bin h _ _ ih1 ih2 =>
    intro hw
    rename_i o a b d e f _ _
    obtain ⟨h1, h2, h3⟩ := st h
    obtain ⟨i1, i2, i3⟩ := ih1 hw.1
    obtain ⟨j1, j2, j3⟩ := ih2 hw.2
    have l1 := opT_len o
    have p1 : 2 ^ htS a ≤ 2 ^ max (htS a) (htS b) := Nat.pow_le_pow_right (by decide) (Nat.le_max_left _ _)
    have p2 : 2 ^ htS b ≤ 2 ^ max (htS a) (htS b) := Nat.pow_le_pow_right (by decide) (Nat.le_max_right _ _)
    rw [h1, h2, h3]
    simp only [dOks, dWts, dDps, dOk_small (opT_small o), i1, j1, dWt, dDp, htS, Bool.and_self, Nat.pow_succ]
    refine ⟨trivial, by omega, by omega⟩
theorem SD.loose {s : Sm} {d : D} (h : SD s d) : ∀ {d' : D}, Ls d d' → SD s d' := by
  have leaf : ∀ {a b : D}, sqOf a = none → Ls a b → b = a := by
    intro a b h l
    cases l with
    | leaf _ => rfl
    | seq h1 _ _ => rw [h] at h1; cases h1
  have sq : ∀ {a b : D} {ds : List D}, sqOf a = some ds → Ls a b → ∃ es, sqOf b = some es ∧ LsA ds es := by
    intro a b ds h l
    cases l with
    | leaf h1 => rw [h] at h1; cases h1
    | seq h1 h2 h3 => rw [h] at h1; cases h1; exact ⟨_, h2, h3⟩
  induction h with
  | num h =>
    intro d' l
    obtain ⟨es, h2, h3⟩ := sq h l
    cases h3 with
    | cons a1 h3 => cases h3 with
      | cons a2 h3 => cases h3; rw [leaf rfl a1, leaf rfl a2] at h2; exact .num h2
  | nam h =>
    intro d' l
    obtain ⟨es, h2, h3⟩ := sq h l
    cases h3 with
    | cons a1 h3 => cases h3 with
      | cons a2 h3 => cases h3; rw [leaf rfl a1, leaf rfl a2] at h2; exact .nam h2
  | les h _ ih =>
    intro d' l
    obtain ⟨es, h2, h3⟩ := sq h l
    cases h3 with
    | cons a1 h3 => cases h3 with
      | cons a2 h3 => cases h3; rw [leaf rfl a1] at h2; exact .les h2 (ih a2)
  | bin h _ _ ih1 ih2 =>
    intro d' l
    obtain ⟨es, h2, h3⟩ := sq h l
    cases h3 with
    | cons a1 h3 => cases h3 with
      | cons a2 h3 => cases h3 with
        | cons a3 h3 => cases h3; rw [leaf rfl a1] at h2; exact .bin h2 (ih1 a2) (ih2 a3)
theorem SD.lk {s : Sm} {d : D} (h : SD s d) : lkD d + 1 ≤ 2 ^ (htS s + 1) := by
  induction h with
  | num h => rw [lkD_sq h]; simp only [lkDs, lkD, htS]; decide
  | nam h => rw [lkD_sq h]; simp only [lkDs, lkD, htS]; decide
  | les h _ ih => rw [lkD_sq h]; simp only [lkDs, lkD, htS, Nat.pow_succ] at ih ⊢; omega
  | bin h _ _ ih1 ih2 =>
    rename_i o a b d e f _ _
    rw [lkD_sq h]
    have p1 : 2 ^ htS a ≤ 2 ^ max (htS a) (htS b) := Nat.pow_le_pow_right (by decide) (Nat.le_max_left _ _)
    have p2 : 2 ^ htS b ≤ 2 ^ max (htS a) (htS b) := Nat.pow_le_pow_right (by decide) (Nat.le_max_right _ _)
    simp only [lkDs, lkD, htS, Nat.pow_succ] at ih1 ih2 ⊢
    omega
theorem rs_pl {g : Tx → Option Int} {s : Sm} (hw : wfS s) : dPl (rsD (valS g s)) = true ∧ dMu (rsD (valS g s)) ≤ 5 := by
  have mu : ∀ {s : Sm} {d : D}, wfS s → valS g s = .ref d → dMu d ≤ 3 := by
    intro s
    induction s with
    | num k => intro d hw h; cases h
    | nam x =>
      intro d hw h
      rw [valS_nam] at h
      cases q : g x with
      | some u => rw [q] at h; cases h
      | none => rw [q] at h; cases h; simp only [dMu, dMus]; omega
    | les a ih =>
      intro d hw h
      unfold valS at h
      cases q : valS g a with
      | num u => rw [q] at h; cases h
      | ref e => rw [q] at h; cases h; exact ih hw q
    | bin o a b ih1 ih2 =>
      intro d hw h
      unfold valS at h
      cases q : valS g a with
      | ref e => rw [q] at h; cases h; exact ih1 hw.1 q
      | num u =>
        rw [q] at h
        cases q2 : valS g b with
        | ref e => rw [q2] at h; cases h; exact ih2 hw.2 q2
        | num w =>
          rw [q2] at h
          dsimp only at h
          unfold joinR at h
          cases q3 : joinI o u w with
          | some z => rw [q3] at h; cases h
          | none => rw [q3] at h; cases h; simp only [nought, dMu, dMus]; omega
  cases q : valS g s with
  | num v =>
    refine ⟨rfl, ?_⟩
    simp only [rsD, dMu, dMus]
    omega
  | ref d =>
    obtain ⟨h1, h2, h3⟩ := val_ref hw q
    have := mu hw q
    refine ⟨?_, ?_⟩
    · simp only [rsD, dPl, dPls, h3]
      rfl
    · simp only [rsD, dMu, dMus]
      omega
theorem p_one_right {i k : Nat} {kvs : List (Ky × D)} (hk : HK kvs) {s : Sm} {d : D} (sd : SD s d) (hw : wfS s) (h4 : htS s ≤ 4) (hn : 20 ≤ n) (hkk : k + 40 < 2 ^ 40) (sv : Stm k i S) (h : ∀ S', Aft (k + 40) i S S' → Q (.bl true) false S') : CW (callM bd n 24 [.val (.ref i), .val d, .val (.dct kvs)] lam S) Q E := by
  have hi := sv.lt
  have hlk : lkD d ≤ 32 := by
    have := sd.lk
    have p : 2 ^ (htS s + 1) ≤ 2 ^ 5 := Nat.pow_le_pow_right (by decide) (by omega)
    have e : (2:Nat) ^ 5 = 32 := by decide
    omega
  have hdp : dDp d ≤ 5 := by have := (sd.dok hw).2.2; omega
  obtain ⟨m, rfl⟩ : ∃ m, n = m + 1 := ⟨n - 1, by omega⟩; refine w__law_one_right ?_; unfold m__law_one_right
  walk_at "mi go"
  refine p_loose 5 (k := k) hdp (by omega) sd.pl (by omega) sv fun d' S1 hl h1 => ?_
  have sd' := sd.loose hl
  walk_at "mi go"
  refine p_mixed (by omega) (k := k + lkD d) (by have := hk.len; unfold itItems; rw [List.length_map]; omega) (h1.stm hi) (by have := hk.len; unfold itItems; rw [List.length_map]; omega) hk.items fun es b S2 hp h2 => ?_
  have h2 := h1.trans h2
  obtain ⟨kvs', e1, e2⟩ := perm_map hp (f := fun (kv : Ky × D) => D.tup [kyD kv.1, kv.2]) rfl
  have hk' := hk.perm e2
  have e1 : es = itItems kvs' := e1
  subst e1
  have hA : Aft (k + 40) i S S2 := h2.mono (by have := hk.len; unfold itItems; rw [List.length_map]; omega)
  walk_at "mi go"
  refine OW.some (bDict_items hk'.nd) ?_
  walk_at "mi go"
  refine p_worth hk.ok sd hw (by omega) (by omega) fun b2 => ?_
  have eg : (fun x => numT (gT kvs' x)) = fun x => numT (gT kvs x) := funext fun x => by rw [hk.gT e2]
  obtain ⟨v1, v2⟩ := rs_pl (g := fun x => numT (gT kvs x)) hw
  have rp : ∀ S, bRepr S (.lst [d', .dct kvs']) = some (.str (reprD (.lst [d', .dct kvs'])), false) := fun S => by
    obtain ⟨a1, a2, a3⟩ := sd'.dok hw
    obtain ⟨c1, c2, c3⟩ := hk'.dok
    have p : 2 ^ htS s ≤ 2 ^ 4 := Nat.pow_le_pow_right (by decide) h4
    have e : (2:Nat) ^ 4 = 16 := by decide
    refine bRepr_ok rfl ?_ ?_ ?_
    · simp only [dOk, dOks] at c1 ⊢
      rw [a1, c1]
      rfl
    · simp only [dWt, dWts] at c2 ⊢
      omega
    · simp only [dDp, dDps] at c3 ⊢
      omega
  cases b2
  all_goals
    walk_at "mi go"
    refine OW.some (rp _) ?_
    walk_at "mi go"
    refine p_sum_ok hk'.ok hk'.pl hk'.sp hk'.vb sd' hw (by omega) (by omega) fun b3 => ?_
    rw [eg]
    walk_at "mi go"
    refine p_sum_ok hk.ok hk.pl hk.sp hk.vb sd hw (by omega) (by omega) fun b4 => ?_
    walk_at "mi go"
    refine p_same 8 ?_ (by omega) ?_ ?_
    · simp only [dMu, dMus]
      omega
    · simp only [dPl, dPls, v1]
      rfl
    · walk_at "mi go"
      refine OW.some (rp _) ?_
      walk_at "mi go"
      rw [decide_eq_true rfl]
      exact h _ hA

end
end Gx
set_option Elab.async false
set_option linter.all false
set_option maxRecDepth 100000
set_option maxHeartbeats 1000000
namespace Gx
open PySem Mi
local macro_rules | `(tactic| walk_at "mi go") => `(tactic| (repeat (first | ((with_reducible refine' putI ?e ?_); (case e => ((try dsimp only [List.set_cons_zero, List.set_cons_succ, slOf_f, slOf_t, wipeF, backF, Tg.put, putAll, List.getElem?_cons_zero, List.getElem?_cons_succ, Option.getD_some]); (try rfl)))) | ((with_reducible refine' OW.some ?e ?_); (case e => rfl)) | with_reducible refine w_ope ?_ | with_reducible refine w_c ?_ | with_reducible refine w_fz ?_ | with_reducible refine w_all1 ?_ | ((with_reducible refine' w_ops ?e ?_); (case e => rfl)) | ((with_reducible refine' w_at2 ?e1 ?e2 ?_); (case e1 => rfl); (case e2 => rfl)) | with_reducible refine w_bin ?_ | ((with_reducible refine' w_at1 ?e ?_); (case e => rfl)) | with_reducible refine w_all0 ?_ | with_reducible refine s_seq ?_ | with_reducible refine w_un ?_ | with_reducible refine s_if ?_ | ((with_reducible refine lenI ?e ?_); (case e => exact Nat.le_of_ble_eq_true rfl)) | ((with_reducible refine ite_F ?e ?_); (case e => rfl)) | ((with_reducible refine' w_var ?e ?_); (case e => rfl)) | with_reducible refine s_nx ?_ | with_reducible refine w_tup ?_ | ((with_reducible refine ite_T ?e ?_); (case e => rfl)) | with_reducible refine s_ret ?_ | with_reducible refine w_call ?_ | with_reducible refine w_truth ?_ | ((with_reducible refine' setI ?e ?_); (case e => ((try dsimp only [List.set_cons_zero, List.set_cons_succ, slOf_f, slOf_t, wipeF, backF, Tg.put, putAll, List.getElem?_cons_zero, List.getElem?_cons_succ, Option.getD_some]); (try rfl)))) | with_reducible refine w_ife ?_ | with_reducible refine s_set ?_ | with_reducible refine w_vl ?_ | with_reducible refine w_lst ?_ | with_reducible refine w_iter ?_ | with_reducible refine w_andV ?_ | ((with_reducible refine' s_retV ?e ?_); (case e => rfl)) | with_reducible refine s_for ?_ | ((with_reducible refine' w_mut ?e ?eL ?_); (case e => rfl); (case eL => rfl)) | with_reducible refine s_drop ?_ | with_reducible refine w_cut ?_ | with_reducible refine w_part ?_ | with_reducible refine w_nopart ?_ | with_reducible refine w_mcomp ?_ | with_reducible refine w_pure ?_ | with_reducible refine w_not ?_ | ((with_reducible refine' w_varO ?e ?_); (case e => rfl)) | with_reducible refine w_dct ?_ | with_reducible refine w_pairs0 ?_ | ((with_reducible refine kvsI ?e ?_); (case e => exact Nat.le_of_ble_eq_true rfl)) | ((with_reducible refine' s_retO ?e ?_); (case e => rfl)) | with_reducible refine w_notV ?_ | with_reducible refine w_or ?_ | with_reducible refine w_zip ?_ | with_reducible refine w_get ?_ | ((with_reducible refine' w_isD ?e ?_); (case e => rfl)) | ((with_reducible refine peI ?e ?_); (case e => exact ⟨_, rfl⟩)) | with_reducible refine w_range1 ?_ | with_reducible refine w_pairs1 ?_ | with_reducible refine s_par ?_ | with_reducible refine s_while ?_ | with_reducible refine s_put ?_ | with_reducible refine s_tup ?_ | with_reducible refine s_raise ?_ | with_reducible refine s_try ?_ | with_reducible refine s_retN ?_ | with_reducible refine s_bk ?_ | with_reducible refine s_ct ?_ | with_reducible refine w_chain ?_ | with_reducible refine w_and ?_ | with_reducible refine w_bl ?_ | with_reducible refine w_orV ?_ | with_reducible refine w_lstS ?_ | with_reducible refine w_callK ?_ | with_reducible refine w_meth1 ?_ | with_reducible refine w_enum ?_ | with_reducible refine w_opt ?_ | with_reducible refine w_range2 ?_ | with_reducible refine s_forD ?_ | with_reducible refine w_compD ?_ | ((with_reducible refine' w_isT ?e ?k ?_); (case e => rfl); (case k => rfl)) | ((with_reducible refine' w_ex ?e ?e2 ?_); (case e => rfl); (case e2 => rfl)) | ((with_reducible refine ltI ?e ?_); (case e => exact Nat.le_of_ble_eq_true rfl)))))
local macro_rules | `(tactic| walk_at "mi w") => `(tactic| (repeat (first | ((with_reducible refine' putI ?e ?_); (case e => ((try dsimp only [List.set_cons_zero, List.set_cons_succ, slOf_f, slOf_t, wipeF, backF, Tg.put, putAll, List.getElem?_cons_zero, List.getElem?_cons_succ, Option.getD_some]); (try rfl)))) | ((with_reducible refine' OW.some ?e ?_); (case e => rfl)) | with_reducible refine w_ope ?_ | with_reducible refine w_c ?_ | with_reducible refine w_fz ?_ | with_reducible refine w_all1 ?_ | ((with_reducible refine' w_ops ?e ?_); (case e => rfl)) | ((with_reducible refine' w_at2 ?e1 ?e2 ?_); (case e1 => rfl); (case e2 => rfl)) | with_reducible refine w_bin ?_ | ((with_reducible refine' w_at1 ?e ?_); (case e => rfl)) | with_reducible refine w_all0 ?_ | with_reducible refine w_un ?_ | ((with_reducible refine lenI ?e ?_); (case e => exact Nat.le_of_ble_eq_true rfl)) | ((with_reducible refine ite_F ?e ?_); (case e => rfl)) | ((with_reducible refine' w_var ?e ?_); (case e => rfl)) | with_reducible refine w_tup ?_ | ((with_reducible refine ite_T ?e ?_); (case e => rfl)) | with_reducible refine w_call ?_ | with_reducible refine w_truth ?_ | ((with_reducible refine' setI ?e ?_); (case e => ((try dsimp only [List.set_cons_zero, List.set_cons_succ, slOf_f, slOf_t, wipeF, backF, Tg.put, putAll, List.getElem?_cons_zero, List.getElem?_cons_succ, Option.getD_some]); (try rfl)))) | with_reducible refine w_ife ?_ | with_reducible refine w_vl ?_ | with_reducible refine w_lst ?_ | with_reducible refine w_iter ?_ | with_reducible refine w_andV ?_ | ((with_reducible refine' w_mut ?e ?eL ?_); (case e => rfl); (case eL => rfl)) | with_reducible refine w_cut ?_ | with_reducible refine w_part ?_ | with_reducible refine w_nopart ?_ | with_reducible refine w_mcomp ?_ | with_reducible refine w_pure ?_ | with_reducible refine w_not ?_ | ((with_reducible refine' w_varO ?e ?_); (case e => rfl)) | with_reducible refine w_dct ?_ | with_reducible refine w_pairs0 ?_ | ((with_reducible refine kvsI ?e ?_); (case e => exact Nat.le_of_ble_eq_true rfl)) | with_reducible refine w_notV ?_ | with_reducible refine w_or ?_ | with_reducible refine w_zip ?_ | with_reducible refine w_get ?_ | ((with_reducible refine' w_isD ?e ?_); (case e => rfl)) | ((with_reducible refine peI ?e ?_); (case e => exact ⟨_, rfl⟩)) | with_reducible refine w_range1 ?_ | with_reducible refine w_pairs1 ?_ | with_reducible refine w_chain ?_ | with_reducible refine w_and ?_ | with_reducible refine w_bl ?_ | with_reducible refine w_orV ?_ | with_reducible refine w_lstS ?_ | with_reducible refine w_callK ?_ | with_reducible refine w_meth1 ?_ | with_reducible refine w_enum ?_ | with_reducible refine w_opt ?_ | with_reducible refine w_range2 ?_ | with_reducible refine w_compD ?_ | ((with_reducible refine' w_isT ?e ?k ?_); (case e => rfl); (case k => rfl)) | ((with_reducible refine' w_ex ?e ?e2 ?_); (case e => rfl); (case e2 => rfl)) | ((with_reducible refine ltI ?e ?_); (case e => exact Nat.le_of_ble_eq_true rfl)))))
section
variable {n : Nat} {lam : Store → CR} {S : Store} {Q : D → Bool → Store → Prop} {E : Nat → List (Tx × D) → Store → Prop}
theorem met_sum {C : Mi.Ctx} {lb : M DX} {f : Fr} {d : D} {QQ : DX → Fr → Store → Prop} {EE : EX} (hd : 2 ≤ C.dep) (hlam : CW (lamFn C lb f S) (fun _ _ _ => False) fun c fs S' => c = 0 ∧ fs = [(txs "total", d)] ∧ S = S') (h : QQ (.tup [.str (txs "sum"), d], false) f S) : RW (mLamCall 2 m__law_met lb C f S) QQ EE := by
  refine w_lamCall hd ?_
  unfold m__law_met
  refine s_try (s_ret (w_tup (w_all1 (w_c (w_all1 (w_fz (w_lam rfl (hlam.mono (fun _ _ _ z => z.elim) fun c fs S' ⟨e1, e2, e3⟩ => ?_))))))))
  subst e1 e2 e3
  refine ⟨by decide, w_hs (ite_T rfl ⟨rfl, w_post ?_⟩)⟩
  walk_at "mi go"
  exact ⟨rfl, h⟩
theorem met_val {C : Mi.Ctx} {lb : M DX} {f : Fr} {d : D} {QQ : DX → Fr → Store → Prop} {EE : EX} (hd : 2 ≤ C.dep) (hlam : CW (lamFn C lb f S) (fun _ _ _ => False) fun c fs S' => c = 1 ∧ fs = [(txs "held", d)] ∧ S = S') (h : QQ (.tup [.str (txs "values"), d], false) f S) : RW (mLamCall 2 m__law_met lb C f S) QQ EE := by
  refine w_lamCall hd ?_
  unfold m__law_met
  refine s_try (s_ret (w_tup (w_all1 (w_c (w_all1 (w_fz (w_lam rfl (hlam.mono (fun _ _ _ z => z.elim) fun c fs S' ⟨e1, e2, e3⟩ => ?_))))))))
  subst e1 e2 e3
  refine ⟨by decide, w_hs (ite_F rfl (w_hs (ite_T rfl ⟨rfl, w_post ?_⟩)))⟩
  walk_at "mi go"
  exact ⟨rfl, h⟩
/-! ### what is no sum -/
structure Odd1 (d : D) : Prop where
  pl : dPl d = true
  mu : dMu d ≤ 12
  ns : NS 12 d
theorem ns_leaf {d : D} (hp : dPl d = true) (h0 : sqOf d = none) : NS 2 d := by
  intro n lam S Q E hn h
  obtain ⟨m, rfl⟩ : ∃ m, n = m + 1 := ⟨n - 1, by omega⟩; refine w_is_sum ?_; unfold m_is_sum
  walk_at "mi go"
  refine p_is_list (by omega) hp ?_
  rw [h0]
  walk_at "mi go"
  exact h
theorem NS.mono {k k' : Nat} {d : D} (h : NS k d) (hk : k ≤ k') : NS k' d := fun hn q => h (Nat.le_trans hk hn) q
section
variable {s : Sm} {t : D}
theorem odd_plus (sd : SD s t) (hw : wfS s) (h4 : htS s ≤ 4) {d : D} (h : Odd1 d) (hm : dMu t ≤ 6) : dPl (.tup [.str (txs "+"), t, d]) = true ∧ dMu (.tup [.str (txs "+"), t, d]) ≤ 13 ∧ NS 13 (.tup [.str (txs "+"), t, d]) := by
  have hp : dPl (.tup [.str (txs "+"), t, d]) = true := by simp only [dPl, dPls, sd.pl, h.pl]; rfl
  refine ⟨hp, ?_, ?_⟩
  · have := h.mu
    simp only [dMu, dMus]
    omega
  · intro n lam S Q E hn q
    obtain ⟨m, rfl⟩ : ∃ m, n = m + 1 := ⟨n - 1, by omega⟩; refine w_is_sum ?_; unfold m_is_sum
    walk_at "mi go"
    refine p_is_list (by omega) hp ?_
    walk_at "mi go"
    refine p_is_sum sd hw (by omega) ?_
    walk_at "mi go"
    refine h.ns (by omega) ?_
    walk_at "mi go"
    exact q
def oddsL (t : D) : List D := [.non, .int 5, .str (txs "x"), .lst [], .tup [], .dct [], .bl true, .tup [.str (txs "number")], .tup [.str (txs "number"), .int (-1)], .tup [.str (txs "number"), .bl true], .tup [.str (txs "number"), .str (txs "1")], .tup [.str (txs "nought")],
  .tup [.str (txs "number"), .int (10 ^ (9 : Int).toNat)], .tup [.str (txs "number"), .int 1, .int 2], .tup [.str (txs "name"), .str (txs "X")], .tup [.str (txs "name"), .int 5], .tup [.str (txs "name")], .tup [.str (txs "name"), .str (txs "ninesigns")],
  .tup [.str (txs "less")], .tup [.str (txs "less"), t, t], .tup [.str (txs "+"), t], .tup [.str (txs "+"), t, t, t], .tup [.str (txs "!"), t, t],
  .tup [.str (txs "*"), t, .non], .tup [.str (txs "<"), .non, t], .tup [.str (txs "less"), .int 5], .tup [.lst [.str (txs "number")], .int 1], .tup [.str (txs "=="), t, t]]
theorem odds_ok (sd : SD s t) (hw : wfS s) (h4 : htS s ≤ 4) (hm : dMu t ≤ 6) : ∀ d ∈ oddsL t, Odd1 d := by
  intro d hd
  have tp := sd.pl
  simp only [oddsL, List.mem_cons, List.not_mem_nil, or_false] at hd
  rcases hd with rfl | rfl | rfl | rfl | rfl | rfl | rfl | rfl | rfl | rfl | rfl | rfl | rfl | rfl | rfl | rfl | rfl | rfl | rfl | rfl | rfl | rfl | rfl | rfl | rfl | rfl | rfl | rfl
  all_goals
    refine ⟨by simp only [dPl, dPls, dPlk, tp, Bool.and_self, Bool.and_true, List.length_cons, List.length_nil]; first | done | rfl | decide, by simp only [dMu, dMus, dMuk]; omega, ?_⟩
    intro n lam S Q E hn h
    obtain ⟨m, rfl⟩ : ∃ m, n = m + 1 := ⟨n - 1, by omega⟩; refine w_is_sum ?_; unfold m_is_sum
    walk_at "mi go"
    refine p_is_list (by omega) (by simp only [dPl, dPls, dPlk, tp, Bool.and_self, Bool.and_true, List.length_cons, List.length_nil]; first | done | rfl | decide) ?_
    walk_at "mi go"
    first
      | exact h
      | (refine p_is_integer (by omega) rfl ?_
         walk_at "mi go"
         exact h)
      | (refine p_is_nameT (by omega) (by decide) ?_
         exact h)
      | (refine p_is_name (by omega) rfl (fun x e => by cases e) ?_
         exact h)
      | (refine p_is_sum sd hw (by omega) ?_
         walk_at "mi go"
         refine ns_leaf rfl rfl (by omega) ?_
         walk_at "mi go"
         exact h)
      | (refine ns_leaf rfl rfl (by omega) ?_
         walk_at "mi go"
         exact h)
end

end
end Gx
set_option Elab.async false
set_option linter.all false
set_option maxRecDepth 100000
set_option maxHeartbeats 1000000
namespace Gx
open PySem Mi
local macro_rules | `(tactic| walk_at "mi go") => `(tactic| (repeat (first | ((with_reducible refine' putI ?e ?_); (case e => ((try dsimp only [List.set_cons_zero, List.set_cons_succ, slOf_f, slOf_t, wipeF, backF, Tg.put, putAll, List.getElem?_cons_zero, List.getElem?_cons_succ, Option.getD_some]); (try rfl)))) | ((with_reducible refine' OW.some ?e ?_); (case e => rfl)) | with_reducible refine w_ope ?_ | with_reducible refine w_c ?_ | with_reducible refine w_fz ?_ | with_reducible refine w_all1 ?_ | ((with_reducible refine' w_ops ?e ?_); (case e => rfl)) | ((with_reducible refine' w_at2 ?e1 ?e2 ?_); (case e1 => rfl); (case e2 => rfl)) | with_reducible refine w_bin ?_ | ((with_reducible refine' w_at1 ?e ?_); (case e => rfl)) | with_reducible refine w_all0 ?_ | with_reducible refine s_seq ?_ | with_reducible refine w_un ?_ | with_reducible refine s_if ?_ | ((with_reducible refine lenI ?e ?_); (case e => exact Nat.le_of_ble_eq_true rfl)) | ((with_reducible refine ite_F ?e ?_); (case e => rfl)) | ((with_reducible refine' w_var ?e ?_); (case e => rfl)) | with_reducible refine s_nx ?_ | with_reducible refine w_tup ?_ | ((with_reducible refine ite_T ?e ?_); (case e => rfl)) | with_reducible refine s_ret ?_ | with_reducible refine w_call ?_ | with_reducible refine w_truth ?_ | ((with_reducible refine' setI ?e ?_); (case e => ((try dsimp only [List.set_cons_zero, List.set_cons_succ, slOf_f, slOf_t, wipeF, backF, Tg.put, putAll, List.getElem?_cons_zero, List.getElem?_cons_succ, Option.getD_some]); (try rfl)))) | with_reducible refine w_ife ?_ | with_reducible refine s_set ?_ | with_reducible refine w_vl ?_ | with_reducible refine w_lst ?_ | with_reducible refine w_iter ?_ | with_reducible refine w_andV ?_ | ((with_reducible refine' s_retV ?e ?_); (case e => rfl)) | with_reducible refine s_for ?_ | ((with_reducible refine' w_mut ?e ?eL ?_); (case e => rfl); (case eL => rfl)) | with_reducible refine s_drop ?_ | with_reducible refine w_cut ?_ | with_reducible refine w_part ?_ | with_reducible refine w_nopart ?_ | with_reducible refine w_mcomp ?_ | with_reducible refine w_pure ?_ | with_reducible refine w_not ?_ | ((with_reducible refine' w_varO ?e ?_); (case e => rfl)) | with_reducible refine w_dct ?_ | with_reducible refine w_pairs0 ?_ | ((with_reducible refine kvsI ?e ?_); (case e => exact Nat.le_of_ble_eq_true rfl)) | ((with_reducible refine' s_retO ?e ?_); (case e => rfl)) | with_reducible refine w_notV ?_ | with_reducible refine w_or ?_ | with_reducible refine w_zip ?_ | with_reducible refine w_get ?_ | ((with_reducible refine' w_isD ?e ?_); (case e => rfl)) | ((with_reducible refine peI ?e ?_); (case e => exact ⟨_, rfl⟩)) | with_reducible refine w_range1 ?_ | with_reducible refine w_pairs1 ?_ | with_reducible refine s_par ?_ | with_reducible refine s_while ?_ | with_reducible refine s_put ?_ | with_reducible refine s_tup ?_ | with_reducible refine s_raise ?_ | with_reducible refine s_try ?_ | with_reducible refine s_retN ?_ | with_reducible refine s_bk ?_ | with_reducible refine s_ct ?_ | with_reducible refine w_chain ?_ | with_reducible refine w_and ?_ | with_reducible refine w_bl ?_ | with_reducible refine w_orV ?_ | with_reducible refine w_lstS ?_ | with_reducible refine w_callK ?_ | with_reducible refine w_meth1 ?_ | with_reducible refine w_enum ?_ | with_reducible refine w_opt ?_ | with_reducible refine w_range2 ?_ | with_reducible refine s_forD ?_ | with_reducible refine w_compD ?_ | ((with_reducible refine' w_isT ?e ?k ?_); (case e => rfl); (case k => rfl)) | ((with_reducible refine' w_ex ?e ?e2 ?_); (case e => rfl); (case e2 => rfl)) | ((with_reducible refine ltI ?e ?_); (case e => exact Nat.le_of_ble_eq_true rfl)))))
local macro_rules | `(tactic| walk_at "mi w") => `(tactic| (repeat (first | ((with_reducible refine' putI ?e ?_); (case e => ((try dsimp only [List.set_cons_zero, List.set_cons_succ, slOf_f, slOf_t, wipeF, backF, Tg.put, putAll, List.getElem?_cons_zero, List.getElem?_cons_succ, Option.getD_some]); (try rfl)))) | ((with_reducible refine' OW.some ?e ?_); (case e => rfl)) | with_reducible refine w_ope ?_ | with_reducible refine w_c ?_ | with_reducible refine w_fz ?_ | with_reducible refine w_all1 ?_ | ((with_reducible refine' w_ops ?e ?_); (case e => rfl)) | ((with_reducible refine' w_at2 ?e1 ?e2 ?_); (case e1 => rfl); (case e2 => rfl)) | with_reducible refine w_bin ?_ | ((with_reducible refine' w_at1 ?e ?_); (case e => rfl)) | with_reducible refine w_all0 ?_ | with_reducible refine w_un ?_ | ((with_reducible refine lenI ?e ?_); (case e => exact Nat.le_of_ble_eq_true rfl)) | ((with_reducible refine ite_F ?e ?_); (case e => rfl)) | ((with_reducible refine' w_var ?e ?_); (case e => rfl)) | with_reducible refine w_tup ?_ | ((with_reducible refine ite_T ?e ?_); (case e => rfl)) | with_reducible refine w_call ?_ | with_reducible refine w_truth ?_ | ((with_reducible refine' setI ?e ?_); (case e => ((try dsimp only [List.set_cons_zero, List.set_cons_succ, slOf_f, slOf_t, wipeF, backF, Tg.put, putAll, List.getElem?_cons_zero, List.getElem?_cons_succ, Option.getD_some]); (try rfl)))) | with_reducible refine w_ife ?_ | with_reducible refine w_vl ?_ | with_reducible refine w_lst ?_ | with_reducible refine w_iter ?_ | with_reducible refine w_andV ?_ | ((with_reducible refine' w_mut ?e ?eL ?_); (case e => rfl); (case eL => rfl)) | with_reducible refine w_cut ?_ | with_reducible refine w_part ?_ | with_reducible refine w_nopart ?_ | with_reducible refine w_mcomp ?_ | with_reducible refine w_pure ?_ | with_reducible refine w_not ?_ | ((with_reducible refine' w_varO ?e ?_); (case e => rfl)) | with_reducible refine w_dct ?_ | with_reducible refine w_pairs0 ?_ | ((with_reducible refine kvsI ?e ?_); (case e => exact Nat.le_of_ble_eq_true rfl)) | with_reducible refine w_notV ?_ | with_reducible refine w_or ?_ | with_reducible refine w_zip ?_ | with_reducible refine w_get ?_ | ((with_reducible refine' w_isD ?e ?_); (case e => rfl)) | ((with_reducible refine peI ?e ?_); (case e => exact ⟨_, rfl⟩)) | with_reducible refine w_range1 ?_ | with_reducible refine w_pairs1 ?_ | with_reducible refine w_chain ?_ | with_reducible refine w_and ?_ | with_reducible refine w_bl ?_ | with_reducible refine w_orV ?_ | with_reducible refine w_lstS ?_ | with_reducible refine w_callK ?_ | with_reducible refine w_meth1 ?_ | with_reducible refine w_enum ?_ | with_reducible refine w_opt ?_ | with_reducible refine w_range2 ?_ | with_reducible refine w_compD ?_ | ((with_reducible refine' w_isT ?e ?k ?_); (case e => rfl); (case k => rfl)) | ((with_reducible refine' w_ex ?e ?e2 ?_); (case e => rfl); (case e2 => rfl)) | ((with_reducible refine ltI ?e ?_); (case e => exact Nat.le_of_ble_eq_true rfl)))))
section
variable {n : Nat} {lam : Store → CR} {S : Store} {Q : D → Bool → Store → Prop} {E : Nat → List (Tx × D) → Store → Prop}
structure Odd2 (d : D) : Prop where
  pl : dPl d = true
  mu : dMu d ≤ 12
  sp : ∀ kvs, d = .dct kvs → ∀ kv ∈ kvs, dPl kv.2 = true ∧ lenOK (kyD kv.1) ∧ lenOK kv.2
  vb : valB d = false
def odds2 : List D := [.non, .int 5, .lst [], .str (txs "x"), .bl true, .dct [(.s (txs "X"), .str (txs "1"))], .dct [(.i 5, .str (txs "1"))], .dct [(.s (txs "x"), .int 5)], .dct [(.s (txs "x"), .non)], .dct [(.s (txs "x"), .lst [.str (txs "1")])], .dct [(.s (txs ""), .str (txs "1"))]]
theorem odds2_ok : ∀ d ∈ odds2, Odd2 d := by
  intro d hd
  simp only [odds2, List.mem_cons, List.not_mem_nil, or_false] at hd
  have sh : ∀ {x : Tx}, x.length ≤ 20 → lenOK (.str x) := fun {x} hx y e => by cases e; show _ ≤ 16777216; omega
  rcases hd with rfl | rfl | rfl | rfl | rfl | rfl | rfl | rfl | rfl | rfl | rfl
  case inl => exact ⟨rfl, by decide, fun kvs e => (by cases e), rfl⟩
  case inr.inl => exact ⟨rfl, by decide, fun kvs e => (by cases e), rfl⟩
  case inr.inr.inl => exact ⟨rfl, by decide, fun kvs e => (by cases e), rfl⟩
  case inr.inr.inr.inl => exact ⟨rfl, by decide, fun kvs e => (by cases e), rfl⟩
  case inr.inr.inr.inr.inl => exact ⟨rfl, by decide, fun kvs e => (by cases e), rfl⟩
  all_goals
    refine ⟨rfl, by decide, fun kvs e kv hkv => ?_, by decide⟩
    cases e
    rw [List.mem_singleton] at hkv
    subst hkv
    refine ⟨rfl, ?_, ?_⟩
    all_goals first | exact sh (by decide) | (intro y e; cases e)
theorem p_refused {i : Nat} {s : Sm} {t : D} (sd : SD s t) (hw : wfS s) (h4 : htS s ≤ 3) (hm : dMu t ≤ 6) (hn : 40 ≤ n) (h : Q (.bl true) false S) : CW (callM bd n 25 [.val (.ref i), .val t] lam S) Q E := by
  have hodd := odds_ok sd hw (by omega) hm
  have hodd2 := odds2_ok
  obtain ⟨m, rfl⟩ : ∃ m, n = m + 1 := ⟨n - 1, by omega⟩; refine w__law_refused_right ?_; unfold m__law_refused_right
  obtain ⟨m, rfl⟩ : ∃ m', m = m' + 2 := ⟨m - 2, by omega⟩
  -- a sum that is none
  have ask1 : ∀ {x3 x4 : D} {ls : Sl} {K BB : Fr → Store → Prop} {TT : D → Bool → Fr → Store → Prop}, NS 13 x4 → dPl x4 = true → dMu x4 ≤ 13 → K [.val (.ref i), .val t, ls, .val x3, .val x4] S → SW (sIf (mNot (mTruth (.e (mFz (mCall 17 [(mFz (mLamCall 2 m__law_met (mCall 11 [(mVar 4), (mC .non)]))), (mFz (mTup [(mC (.str (txs "sum"))), (mVar 4)]))]))))) (sRet (mVl (mC (.bl false)))) sNx ⟨callM bd (m + 2), lam, m + 2, loM bd (m + 2)⟩ [.val (.ref i), .val t, ls, .val x3, .val x4] S) K TT BB K fun c fs _ S => E c fs S := by
    intro x3 x4 ls K BB TT hns hpl hmu hK
    walk_at "mi go"
    refine met_sum (d := x4) (by show 2 ≤ m + 2; omega) (w_lamFn ?_) ?_
    · walk_at "mi go"
      refine p_sum_bad hns (by omega) ?_
      exact ⟨rfl, rfl, rfl⟩
    · walk_at "mi go"
      refine p_same 20 ?_ (by omega) ?_ ?_
      · simp only [dMu, dMus]; omega
      · simp only [dPl, dPls, hpl]; rfl
      · walk_at "mi go"
        exact hK
  have ask2 : ∀ {x3 : D} {ls s4 : Sl} {K BB : Fr → Store → Prop} {TT : D → Bool → Fr → Store → Prop}, Odd2 x3 → K [.val (.ref i), .val t, ls, .val x3, s4] S → SW (sIf (mNot (mTruth (.e (mFz (mCall 17 [(mFz (mLamCall 2 m__law_met (mCall 11 [(mVar 1), (mVar 3)]))), (mFz (mTup [(mC (.str (txs "values"))), (mVar 3)]))]))))) (sRet (mVl (mC (.bl false)))) sNx ⟨callM bd (m + 2), lam, m + 2, loM bd (m + 2)⟩ [.val (.ref i), .val t, ls, .val x3, s4] S) K TT BB K fun c fs _ S => E c fs S := by
    intro x3 ls s4 K BB TT ho hK
    walk_at "mi go"
    refine met_val (d := x3) (by show 2 ≤ m + 2; omega) (w_lamFn ?_) ?_
    · walk_at "mi go"
      refine p_val_bad sd hw (by omega) ho.pl ho.sp ho.vb ?_
      exact ⟨rfl, rfl, rfl⟩
    · have := ho.mu
      walk_at "mi go"
      refine p_same 20 ?_ (by omega) ?_ ?_
      · simp only [dMu, dMus]; omega
      · simp only [dPl, dPls, ho.pl]; rfl
      · walk_at "mi go"
        exact hK
  walk_at "mi go"
  refine w_loop (fun pre post f S' => S = S' ∧ ∃ x3 x4, f = [.val (.ref i), .val t, .val (.lst (oddsL t)), x3, x4]) ⟨rfl, _, _, rfl⟩ ?_ ?_
  · intro pre d post f S' hds ⟨e1, x3, x4, hf⟩
    subst e1 hf
    have hd := hodd d (by rw [show oddsL t = pre ++ d :: post from hds]; exact List.mem_append_right _ List.mem_cons_self)
    have hp := odd_plus sd hw (by omega) hd hm
    refine putI rfl ?_
    refine s_for ?_
    walk_at "mi w"
    refine ite_i (fun hc => ?_) (fun hc => ?_)
    · walk_at "mi w"
      refine w_loop1 (putI rfl ?_)
      refine ask1 (NS.mono (@Odd1.ns d hd) (by omega)) hd.pl (Nat.le_trans hd.mu (by omega)) ?_
      refine w_loop1 (putI rfl ?_)
      refine ask1 hp.2.2 hp.1 hp.2.1 ?_
      exact w_loop0 ⟨rfl, _, _, rfl⟩
    · walk_at "mi w"
      refine w_loop1 (putI rfl ?_)
      refine ask1 (NS.mono (@Odd1.ns d hd) (by omega)) hd.pl (Nat.le_trans hd.mu (by omega)) ?_
      exact w_loop0 ⟨rfl, _, _, rfl⟩
  · intro f S' ⟨e1, x3, x4, hf⟩
    subst e1 hf
    walk_at "mi go"
    refine w_loop (ds := odds2) (fun pre post f S' => S = S' ∧ ∃ x3 x4, f = [.val (.ref i), .val t, .val (.lst odds2), x3, x4]) ⟨rfl, _, _, rfl⟩ ?_ ?_
    · intro pre d post f S' hds ⟨e1, x3, x4, hf⟩
      subst e1 hf
      have hd := hodd2 d (by rw [show odds2 = pre ++ d :: post from hds]; exact List.mem_append_right _ List.mem_cons_self)
      refine putI rfl ?_
      exact ask2 hd ⟨rfl, _, _, rfl⟩
    · intro f S' ⟨e1, x3, x4, hf⟩
      subst e1 hf
      walk_at "mi go"
      exact h

end
end Gx
set_option Elab.async false
set_option linter.all false
set_option maxRecDepth 100000
set_option maxHeartbeats 1000000
namespace Gx
open PySem Mi
local macro_rules | `(tactic| walk_at "mi go") => `(tactic| (repeat (first | ((with_reducible refine' putI ?e ?_); (case e => ((try dsimp only [List.set_cons_zero, List.set_cons_succ, slOf_f, slOf_t, wipeF, backF, Tg.put, putAll, List.getElem?_cons_zero, List.getElem?_cons_succ, Option.getD_some]); (try rfl)))) | ((with_reducible refine' OW.some ?e ?_); (case e => rfl)) | with_reducible refine w_ope ?_ | with_reducible refine w_c ?_ | with_reducible refine w_fz ?_ | with_reducible refine w_all1 ?_ | ((with_reducible refine' w_ops ?e ?_); (case e => rfl)) | ((with_reducible refine' w_at2 ?e1 ?e2 ?_); (case e1 => rfl); (case e2 => rfl)) | with_reducible refine w_bin ?_ | ((with_reducible refine' w_at1 ?e ?_); (case e => rfl)) | with_reducible refine w_all0 ?_ | with_reducible refine s_seq ?_ | with_reducible refine w_un ?_ | with_reducible refine s_if ?_ | ((with_reducible refine lenI ?e ?_); (case e => exact Nat.le_of_ble_eq_true rfl)) | ((with_reducible refine ite_F ?e ?_); (case e => rfl)) | ((with_reducible refine' w_var ?e ?_); (case e => rfl)) | with_reducible refine s_nx ?_ | with_reducible refine w_tup ?_ | ((with_reducible refine ite_T ?e ?_); (case e => rfl)) | with_reducible refine s_ret ?_ | with_reducible refine w_call ?_ | with_reducible refine w_truth ?_ | ((with_reducible refine' setI ?e ?_); (case e => ((try dsimp only [List.set_cons_zero, List.set_cons_succ, slOf_f, slOf_t, wipeF, backF, Tg.put, putAll, List.getElem?_cons_zero, List.getElem?_cons_succ, Option.getD_some]); (try rfl)))) | with_reducible refine w_ife ?_ | with_reducible refine s_set ?_ | with_reducible refine w_vl ?_ | with_reducible refine w_lst ?_ | with_reducible refine w_iter ?_ | with_reducible refine w_andV ?_ | ((with_reducible refine' s_retV ?e ?_); (case e => rfl)) | with_reducible refine s_for ?_ | ((with_reducible refine' w_mut ?e ?eL ?_); (case e => rfl); (case eL => rfl)) | with_reducible refine s_drop ?_ | with_reducible refine w_cut ?_ | with_reducible refine w_part ?_ | with_reducible refine w_nopart ?_ | with_reducible refine w_mcomp ?_ | with_reducible refine w_pure ?_ | with_reducible refine w_not ?_ | ((with_reducible refine' w_varO ?e ?_); (case e => rfl)) | with_reducible refine w_dct ?_ | with_reducible refine w_pairs0 ?_ | ((with_reducible refine kvsI ?e ?_); (case e => exact Nat.le_of_ble_eq_true rfl)) | ((with_reducible refine' s_retO ?e ?_); (case e => rfl)) | with_reducible refine w_notV ?_ | with_reducible refine w_or ?_ | with_reducible refine w_zip ?_ | with_reducible refine w_get ?_ | ((with_reducible refine' w_isD ?e ?_); (case e => rfl)) | ((with_reducible refine peI ?e ?_); (case e => exact ⟨_, rfl⟩)) | with_reducible refine w_range1 ?_ | with_reducible refine w_pairs1 ?_ | with_reducible refine s_par ?_ | with_reducible refine s_while ?_ | with_reducible refine s_put ?_ | with_reducible refine s_tup ?_ | with_reducible refine s_raise ?_ | with_reducible refine s_try ?_ | with_reducible refine s_retN ?_ | with_reducible refine s_bk ?_ | with_reducible refine s_ct ?_ | with_reducible refine w_chain ?_ | with_reducible refine w_and ?_ | with_reducible refine w_bl ?_ | with_reducible refine w_orV ?_ | with_reducible refine w_lstS ?_ | with_reducible refine w_callK ?_ | with_reducible refine w_meth1 ?_ | with_reducible refine w_enum ?_ | with_reducible refine w_opt ?_ | with_reducible refine w_range2 ?_ | with_reducible refine s_forD ?_ | with_reducible refine w_compD ?_ | ((with_reducible refine' w_isT ?e ?k ?_); (case e => rfl); (case k => rfl)) | ((with_reducible refine' w_ex ?e ?e2 ?_); (case e => rfl); (case e2 => rfl)) | ((with_reducible refine ltI ?e ?_); (case e => exact Nat.le_of_ble_eq_true rfl)))))
local macro_rules | `(tactic| walk_at "mi w") => `(tactic| (repeat (first | ((with_reducible refine' putI ?e ?_); (case e => ((try dsimp only [List.set_cons_zero, List.set_cons_succ, slOf_f, slOf_t, wipeF, backF, Tg.put, putAll, List.getElem?_cons_zero, List.getElem?_cons_succ, Option.getD_some]); (try rfl)))) | ((with_reducible refine' OW.some ?e ?_); (case e => rfl)) | with_reducible refine w_ope ?_ | with_reducible refine w_c ?_ | with_reducible refine w_fz ?_ | with_reducible refine w_all1 ?_ | ((with_reducible refine' w_ops ?e ?_); (case e => rfl)) | ((with_reducible refine' w_at2 ?e1 ?e2 ?_); (case e1 => rfl); (case e2 => rfl)) | with_reducible refine w_bin ?_ | ((with_reducible refine' w_at1 ?e ?_); (case e => rfl)) | with_reducible refine w_all0 ?_ | with_reducible refine w_un ?_ | ((with_reducible refine lenI ?e ?_); (case e => exact Nat.le_of_ble_eq_true rfl)) | ((with_reducible refine ite_F ?e ?_); (case e => rfl)) | ((with_reducible refine' w_var ?e ?_); (case e => rfl)) | with_reducible refine w_tup ?_ | ((with_reducible refine ite_T ?e ?_); (case e => rfl)) | with_reducible refine w_call ?_ | with_reducible refine w_truth ?_ | ((with_reducible refine' setI ?e ?_); (case e => ((try dsimp only [List.set_cons_zero, List.set_cons_succ, slOf_f, slOf_t, wipeF, backF, Tg.put, putAll, List.getElem?_cons_zero, List.getElem?_cons_succ, Option.getD_some]); (try rfl)))) | with_reducible refine w_ife ?_ | with_reducible refine w_vl ?_ | with_reducible refine w_lst ?_ | with_reducible refine w_iter ?_ | with_reducible refine w_andV ?_ | ((with_reducible refine' w_mut ?e ?eL ?_); (case e => rfl); (case eL => rfl)) | with_reducible refine w_cut ?_ | with_reducible refine w_part ?_ | with_reducible refine w_nopart ?_ | with_reducible refine w_mcomp ?_ | with_reducible refine w_pure ?_ | with_reducible refine w_not ?_ | ((with_reducible refine' w_varO ?e ?_); (case e => rfl)) | with_reducible refine w_dct ?_ | with_reducible refine w_pairs0 ?_ | ((with_reducible refine kvsI ?e ?_); (case e => exact Nat.le_of_ble_eq_true rfl)) | with_reducible refine w_notV ?_ | with_reducible refine w_or ?_ | with_reducible refine w_zip ?_ | with_reducible refine w_get ?_ | ((with_reducible refine' w_isD ?e ?_); (case e => rfl)) | ((with_reducible refine peI ?e ?_); (case e => exact ⟨_, rfl⟩)) | with_reducible refine w_range1 ?_ | with_reducible refine w_pairs1 ?_ | with_reducible refine w_chain ?_ | with_reducible refine w_and ?_ | with_reducible refine w_bl ?_ | with_reducible refine w_orV ?_ | with_reducible refine w_lstS ?_ | with_reducible refine w_callK ?_ | with_reducible refine w_meth1 ?_ | with_reducible refine w_enum ?_ | with_reducible refine w_opt ?_ | with_reducible refine w_range2 ?_ | with_reducible refine w_compD ?_ | ((with_reducible refine' w_isT ?e ?k ?_); (case e => rfl); (case k => rfl)) | ((with_reducible refine' w_ex ?e ?e2 ?_); (case e => rfl); (case e2 => rfl)) | ((with_reducible refine ltI ?e ?_); (case e => exact Nat.le_of_ble_eq_true rfl)))))
section
variable {n : Nat} {lam : Store → CR} {S : Store} {Q : D → Bool → Store → Prop} {E : Nat → List (Tx × D) → Store → Prop}
theorem SD.mu {s : Sm} {d : D} (h : SD s d) : dMu d ≤ htS s + 3 := by
  induction h with
  | num h =>
    rcases sq_cases h with rfl | rfl <;> (simp only [dMu, dMus]; omega)
  | nam h =>
    rcases sq_cases h with rfl | rfl <;> (simp only [dMu, dMus]; omega)
  | les h _ ih =>
    rcases sq_cases h with rfl | rfl <;> (simp only [dMu, dMus, htS] at ih ⊢; omega)
  | bin h _ _ ih1 ih2 =>
    rcases sq_cases h with rfl | rfl <;> (simp only [dMu, dMus, htS] at ih1 ih2 ⊢; omega)
def Sum3 (d : D) : Prop := ∃ s, SD s d ∧ wfS s ∧ htS s ≤ 3
theorem hk_one {x t : Tx} (hx : nameT x = true) (hl : x.length ≤ 20) (ht : TxOK (.str t)) : HK [(.s x, .str t)] := ⟨by simp, fun kv hkv => by rw [List.mem_singleton] at hkv; subst hkv; exact ⟨⟨x, rfl, hx, hl⟩, ht⟩, by show 1 ≤ 4; decide⟩
theorem stm_new {k : Nat} {a b c : Int} (v : StV k a b c) : Stm k S.length (S ++ [.lst [.int a, .int b, .int c]]) := ⟨a, b, c, by rw [List.getElem?_append_right (Nat.le_refl _), Nat.sub_self]; rfl, v⟩
theorem p_law {ns : List Int} (hl : ns.length ≤ 63) (hn : 50 ≤ n) (h : ∀ S', Q (.bl true) false S') : CW (callM bd n 26 [.val (.scr ns)] lam S) Q E := by
  obtain ⟨m, rfl⟩ : ∃ m, n = m + 1 := ⟨n - 1, by omega⟩; refine w_law ?_; unfold m_law
  walk_at "mi go"
  refine ⟨4, rfl, rfl, ?_⟩
  refine w_loop (fun pre post f S' => ∃ x1 x2 x3 x4 x5 x6 x7 x8 x9 x10 x11, f = [.val (.scr ns), x1, x2, x3, x4, x5, x6, x7, x8, x9, x10, x11, .un]) ⟨_, _, _, _, _, _, _, _, _, _, _, rfl⟩ ?_ ?_
  · intro pre d post f S1 hds ⟨x1, x2, x3, x4, x5, x6, x7, x8, x9, x10, x11, hf⟩
    subst hf
    have hd : d ∈ rangeD 0 4 := by rw [show rangeD 0 4 = pre ++ d :: post from hds]; exact List.mem_append_right _ List.mem_cons_self
    obtain ⟨q, hq, rfl⟩ := List.mem_map.mp hd
    have hq := List.mem_range.mp hq
    generalize hqe : (0 : Int) + (q : Int) = t
    have ht : 0 ≤ t ∧ t ≤ 3 := by omega
    walk_at "mi go"
    refine p_stream (by omega) hl ht.1 ht.2 fun a b v => ?_
    have sv := stm_new (S := S1) v
    generalize S1 ++ [SO.lst [.int a, .int b, .int 0]] = S2 at sv
    generalize S1.length = i at sv
    walk_at "mi go"
    refine w_loop (fun pre post f S' => Stm (1100 * pre.length) i S' ∧ ∃ x3 x4 x5 x6 x7 x8 x9 x10 x11, f = [.val (.scr ns), .val (.int t), .val (.ref i), x3, x4, x5, x6, x7, x8, x9, x10, x11, .un] ∧ (pre ≠ [] → ∃ ts, x9 = .own (.lst ts) ∧ ts ≠ [] ∧ ∀ t ∈ ts, Sum3 t)) ⟨sv, _, _, _, _, _, _, _, _, _, rfl, fun h => absurd rfl h⟩ ?_ ?_
    · intro pre d post f S3 hds ⟨sv, x3, x4, x5, x6, x7, x8, x9, x10, x11, hf, _⟩
      subst hf
      have hpl : pre.length ≤ 2 := by
        have e : 3 = (pre ++ d :: post).length := congrArg List.length hds
        rw [List.length_append, List.length_cons] at e
        omega
      have hd : d ∈ ([.int 10, .int 1000, .int (10 ^ Int.toNat 9)] : List D) := by rw [hds]; exact List.mem_append_right _ List.mem_cons_self
      obtain ⟨w, rfl, hw⟩ : ∃ w, d = .int w ∧ most3 w := by
        simp only [List.mem_cons, List.not_mem_nil, or_false] at hd
        rcases hd with rfl | rfl | rfl
        · exact ⟨_, rfl, .inl rfl⟩
        · exact ⟨_, rfl, .inr (.inl rfl)⟩
        · exact ⟨_, rfl, .inr (.inr (by decide))⟩
      walk_at "mi go"
      refine p_held (k := 1100 * pre.length) (by omega) hw (by omega) sv fun kvs bb S4 hk h4 => ?_
      have sv := h4.stm sv.lt
      refine setI (by dsimp only [List.set_cons_zero, List.set_cons_succ]) ?_
      refine s_seq ?_
      refine s_set (RW.mono (Q := fun d f' S' => ∃ ts, d = (.lst ts, true) ∧ ts.length = 5 ∧ (∀ t ∈ ts, Sum3 t) ∧ Stm (1100 * pre.length + 30 + 155 * 5) i S' ∧ ∃ x9 x10 x11, f' = [.val (.scr ns), .val (.int t), .val (.ref i), .val (.int w), x4, x5, x6, x7, slOf (.dct kvs, bb), x9, x10, x11, .un]) ?_ (fun d f' S' ⟨ts, e1, e2, e3, e4, x9, x10, x11, e5⟩ => ?_) (fun _ _ _ _ z => z))
      · walk_at "mi go"
        refine ⟨5, rfl, rfl, ?_⟩
        refine w_comp (fun pre' post acc f S' => acc.length = pre'.length ∧ (∀ t ∈ acc, Sum3 t) ∧ Stm (1100 * pre.length + 30 + 155 * pre'.length) i S' ∧ ∃ y x9, f = [.val (.scr ns), .val (.int t), .val (.ref i), .val (.int w), x4, x5, x6, x7, slOf (.dct kvs, bb), x9, x10, x11, y]) rfl rfl ⟨rfl, fun _ h => (by cases h), sv, _, _, rfl⟩ (by decide) ?_ ?_
        · intro pre' d' post' acc f S5 hds' _ ⟨h1, h2, sv, y, x9, hf⟩
          subst hf
          have hpl' : pre'.length ≤ 4 := by
            have e : 5 = (pre' ++ d' :: post').length := congrArg List.length hds'
            rw [List.length_append, List.length_cons] at e
            omega
          walk_at "mi go"
          refine p_draw (by omega) (k := 1100 * pre.length + 30 + 155 * pre'.length) (by omega) sv (by decide) (by decide) fun r S6 hr0 hr1 h6 => ?_
          have sv := h6.stm sv.lt
          walk_at "mi go"
          obtain ⟨N, hN⟩ : ∃ N : Nat, 1 + r = (N : Int) := ⟨(1 + r).toNat, by omega⟩
          have hN3 : N ≤ 3 := by omega
          have hcS := cS_le N hN3
          rw [hN]
          refine p_lsum N (k := 1100 * pre.length + 30 + 155 * pre'.length + 1) (by omega) hw (by omega) sv fun s d'' b S7 sd hwf hht h7 => ?_
          have sv := (h7.stm sv.lt).mono (k' := 1100 * pre.length + 30 + 155 * (pre'.length + 1)) (by omega)
          cases b
          all_goals
            walk_at "mi go"
            refine ⟨by rw [List.length_append, List.length_append, h1]; rfl, fun t ht => ?_, by rw [List.length_append]; exact sv, _, _, rfl⟩
            rcases List.mem_append.mp ht with ht | ht
            · exact h2 t ht
            · rw [List.mem_singleton] at ht
              subst ht
              exact ⟨s, sd, hwf, by omega⟩
        · intro acc f' S5 ⟨h1, h2, sv, y, x9, hf⟩
          subst hf
          exact ⟨acc, rfl, h1, h2, sv, _, _, _, rfl⟩
      · subst e1 e5
        have hcut : cut ts none (some 1) = ts.take 1 := cut_n1 ts
        refine setI (by dsimp only [List.set_cons_zero, List.set_cons_succ]) ?_
        walk_at "mi w"
        refine s_for ?_
        walk_at "mi go"
        rw [hcut]
        have hlen6 : (ts ++ ts.take 1).length ≤ LIM := by rw [List.length_append, List.length_take, e2]; decide
        refine OW.some (a := (D.lst (ts ++ ts.take 1), true)) (by show (if ts.length + (ts.take 1).length ≤ LIM then some (D.lst (ts ++ ts.take 1), true) else none) = _; rw [if_pos (by rw [← List.length_append]; exact hlen6)]) ?_
        walk_at "mi go"
        have hall : ∀ t ∈ ts ++ ts.take 1, Sum3 t := fun t ht => by
          rcases List.mem_append.mp ht with ht | ht
          · exact e3 t ht
          · exact e3 t (List.mem_of_mem_take ht)
        have hl6 : (ts ++ ts.take 1).length = 6 := by rw [List.length_append, List.length_take, e2]; decide
        have e2' : ts ≠ [] := fun e => by rw [e] at e2; cases e2
        have e4' : Stm (1100 * pre.length + 805 + 40 * ([] : List D).length) i S' := e4.mono (by show _ ≤ 1100 * pre.length + 805 + 0; omega)
        refine w_loop (fun pre' post f S' => Stm (1100 * pre.length + 805 + 40 * pre'.length) i S' ∧ ∃ bb x10, f = [.val (.scr ns), .val (.int t), .val (.ref i), .val (.int w), x4, x5, x6, x7, slOf (.dct kvs, bb), .own (.lst ts), x10, x11, .un]) ⟨e4', _, _, rfl⟩ ?_ ?_
        · intro pre' d' post' f S6 hds' ⟨sv, bb, x10, hf⟩
          subst hf
          have hpl' : pre'.length ≤ 5 := by
            have e : (ts ++ ts.take 1).length = (pre' ++ d' :: post').length := congrArg List.length hds'
            rw [List.length_append (as := pre'), List.length_cons] at e
            omega
          obtain ⟨s, sd, hwf, hht⟩ := hall d' (by rw [hds']; exact List.mem_append_right _ List.mem_cons_self)
          refine putI (by dsimp only [Tg.put, List.set_cons_zero, List.set_cons_succ]) ?_
          cases bb
          all_goals
            walk_at "mi go"
            refine p_one_right hk (k := 1100 * pre.length + 805 + 40 * pre'.length) sd hwf (by omega) (by omega) (by omega) sv fun S7 h7 => ?_
            have sv := h7.stm sv.lt
            walk_at "mi go"
            first
            | exact ⟨by rw [List.length_append]; exact sv, false, _, rfl⟩
            | exact ⟨by rw [List.length_append]; exact sv, true, _, rfl⟩
        · intro f S6 ⟨sv, bb, x10, hf⟩
          subst hf
          rw [hl6] at sv
          exact ⟨sv.mono (by rw [List.length_append]; show _ ≤ 1100 * (pre.length + 1); omega), _, _, _, _, _, _, _, _, _, rfl, fun _ => ⟨ts, rfl, e2', e3⟩⟩
    · intro f S3 ⟨sv, x3, x4, x5, x6, x7, x8, x9, x10, x11, hf, hx9⟩
      obtain ⟨ts, e9, hne, hts⟩ := hx9 (by decide)
      subst hf e9
      have hlen : (0 : Int) < ts.length := by
        have := List.length_pos_iff.mpr hne
        omega
      obtain ⟨x, hx, ex, _⟩ := pIx_lst (S := S3) (Int.le_refl 0) hlen
      obtain ⟨s, sd, hwf, hht⟩ := hts x hx
      walk_at "mi go"
      refine OW.some ex ?_
      walk_at "mi go"
      refine p_refused sd hwf hht (by have := sd.mu; show dMu x ≤ 6; omega) (by omega) ?_
      walk_at "mi go"
      exact ⟨_, _, _, _, _, _, _, _, _, _, _, rfl⟩
  · intro f S1 ⟨x1, x2, x3, x4, x5, x6, x7, x8, x9, x10, x11, hf⟩
    subst hf
    walk_at "mi go"
    refine w_loop (fun pre post f S' => ∃ x1 x2 x3 x4 x5 x6 x7 x8 x9 x10 x11 x12, f = [.val (.scr ns), x1, x2, x3, x4, x5, x6, x7, x8, x9, x10, x11, x12]) ⟨_, _, _, _, _, _, _, _, _, _, _, _, rfl⟩ ?_ ?_
    · intro pre d post f S2 hds ⟨x1, x2, x3, x4, x5, x6, x7, x8, x9, x10, x11, x12, hf⟩
      subst hf
      have hd : d ∈ ([.tup [.int 7, .int 2], .tup [.int (-7), .int 2], .tup [.int 7, .int (-2)], .tup [.int (-7), .int (-2)], .tup [.int 6, .int 3], .tup [.int 0, .int (-5)]] : List D) := by
        rw [show ([.tup [.int 7, .int 2], .tup [.int (-7), .int 2], .tup [.int 7, .int (-2)], .tup [.int (-7), .int (-2)], .tup [.int 6, .int 3], .tup [.int 0, .int (-5)]] : List D) = pre ++ d :: post from hds]
        exact List.mem_append_right _ List.mem_cons_self
      obtain ⟨u, v, t, rfl, hu, hv, hb, ht, hnt⟩ : ∃ u v t, d = .tup [.int u, .int v] ∧ u.natAbs < 2 ^ 5 ∧ v.natAbs < 2 ^ 5 ∧ (∀ S, bStr S (.int v) = some (.str t, false)) ∧ TxOK (.str t) ∧ numT t = some v := by
        simp only [List.mem_cons, List.not_mem_nil, or_false] at hd
        rcases hd with rfl | rfl | rfl | rfl | rfl | rfl
        · exact ⟨_, _, txs "2", rfl, by decide, by decide, fun _ => rfl, txok_s (u := 2) (by decide) (by decide) (by decide) (by decide), by decide⟩
        · exact ⟨_, _, txs "2", rfl, by decide, by decide, fun _ => rfl, txok_s (u := 2) (by decide) (by decide) (by decide) (by decide), by decide⟩
        · exact ⟨_, _, txs "-2", rfl, by decide, by decide, fun _ => rfl, txok_s (u := -2) (by decide) (by decide) (by decide) (by decide), by decide⟩
        · exact ⟨_, _, txs "-2", rfl, by decide, by decide, fun _ => rfl, txok_s (u := -2) (by decide) (by decide) (by decide) (by decide), by decide⟩
        · exact ⟨_, _, txs "3", rfl, by decide, by decide, fun _ => rfl, txok_s (u := 3) (by decide) (by decide) (by decide) (by decide), by decide⟩
        · exact ⟨_, _, txs "-5", rfl, by decide, by decide, fun _ => rfl, txok_s (u := -5) (by decide) (by decide) (by decide) (by decide), by decide⟩
      have hk : HK [(.s (txs "x"), .str t)] := hk_one (by decide) (by decide) ht
      refine putI (by dsimp only [Tg.put, putAll, List.set_cons_zero, List.set_cons_succ]) ?_
      refine s_seq ?_
      refine s_set ?_
      refine RW.mono (Q := fun d f' S' => ∃ a s1, d = (.lst [a, .tup [.str (txs "name"), .str (txs "x")]], true) ∧ SD s1 a ∧ wfS s1 ∧ htS s1 ≤ 1 ∧ (∀ g, valS g s1 = .num u) ∧ S2 = S' ∧ f' = [.val (.scr ns), x1, x2, x3, .val (.int u), .val (.int v), x6, x7, x8, x9, x10, x11, x12]) ?_ (fun d f' S' ⟨a, s1, e1, e2, e3, e4, e5, e6, e7⟩ => ?_) (fun _ _ _ _ z => z)
      · walk_at "mi go"
        refine ite_i (fun hc => ?_) (fun hc => ?_)
        · have hc : 0 ≤ u := of_decide_eq_true hc
          walk_at "mi go"
          rw [if_neg (show ¬ u < 0 by omega)]
          refine ⟨_, .num u, rfl, .num rfl, ⟨hc, by omega⟩, (by show 0 ≤ 1; omega), fun g => rfl, rfl, rfl⟩
        · have hc : ¬ 0 ≤ u := of_decide_eq_false hc
          walk_at "mi go"
          refine ⟨_, .les (.num (0 - u)), rfl, .les rfl (.num rfl), (show 0 ≤ 0 - u ∧ 0 - u < 1000000000 from ⟨by omega, by omega⟩), (by show 0 + 1 ≤ 1; omega), fun g => ?_, rfl, rfl⟩
          show Rs.num (-(0 - u)) = _
          rw [show (-(0 - u)) = u by omega]
      · subst e1 e6 e7
        refine setI (by dsimp only [List.set_cons_zero, List.set_cons_succ]) ?_
        walk_at "mi go"
        refine w_loop (fun pre post f S' => S2 = S' ∧ ∃ x7 x11, f = [.val (.scr ns), x1, x2, x3, .val (.int u), .val (.int v), .own (.lst [a, .tup [.str (txs "name"), .str (txs "x")]]), x7, x8, x9, x10, x11, x12]) ⟨rfl, _, _, rfl⟩ ?_ ?_
        · intro pre d post f S' hds ⟨e1, x7, x11, hf⟩
          subst e1 hf
          have hd : d ∈ ([.str (txs "/"), .str (txs "~")] : List D) := by
            rw [show ([.str (txs "/"), .str (txs "~")] : List D) = pre ++ d :: post from hds]
            exact List.mem_append_right _ List.mem_cons_self
          obtain ⟨o, rfl, ho⟩ : ∃ o, d = .str (opT o) ∧ (o = .dv ∨ o = .rm) := by
            simp only [List.mem_cons, List.not_mem_nil, or_false] at hd
            rcases hd with rfl | rfl
            · exact ⟨.dv, rfl, .inl rfl⟩
            · exact ⟨.rm, rfl, .inr rfl⟩
          refine putI (by dsimp only [Tg.put, putAll, List.set_cons_zero, List.set_cons_succ]) ?_
          walk_at "mi go"
          refine p_parted (by omega) ho (k := 5) (by omega) hu hv ?_
          walk_at "mi go"
          refine OW.some (hb _) ?_
          walk_at "mi go"
          have hw : wfS (.bin o s1 (.nam (txs "x"))) := ⟨e3, by decide, by decide⟩
          have ev : valS (fun x => numT (gT [(.s (txs "x"), .str t)] x)) (.bin o s1 (.nam (txs "x"))) = joinR o u v := by
            have eg : gT [(.s (txs "x"), .str t)] (txs "x") = t := rfl
            show (match valS (fun x => numT (gT [(.s (txs "x"), .str t)] x)) s1 with | .ref d => Rs.ref d | .num u => match valS (fun x => numT (gT [(.s (txs "x"), .str t)] x)) (.nam (txs "x")) with | .ref d => .ref d | .num v => joinR o u v) = _
            rw [e5]
            dsimp only [valS]
            rw [eg, hnt]
          obtain ⟨v1, v2⟩ := rs_pl (g := fun x => numT (gT [(.s (txs "x"), .str t)] x)) hw
          rw [ev] at v1 v2
          refine p_sum_ok (s := .bin o s1 (.nam (txs "x"))) (kvs := [(.s (txs "x"), .str t)]) hk.ok hk.pl hk.sp hk.vb (.bin rfl e2 (.nam rfl)) hw (show max (htS s1) 0 + 1 ≤ 5 by omega) (show max (htS s1) 0 + 1 + 6 ≤ m by omega) fun b => ?_
          rw [ev]
          walk_at "mi go"
          refine p_same 8 (Nat.le_trans v2 (by decide)) (by omega) v1 ?_
          walk_at "mi go"
          exact ⟨rfl, _, _, rfl⟩
        · intro f S' ⟨e1, x7, x11, hf⟩
          subst e1 hf
          exact ⟨_, _, _, _, _, _, _, _, _, _, _, _, rfl⟩
    · intro f S2 ⟨x1, x2, x3, x4, x5, x6, x7, x8, x9, x10, x11, x12, hf⟩
      subst hf
      walk_at "mi go"
      have hk : HK [(.s (txs "a"), .str (txs "-"))] := hk_one (by decide) (by decide) (txok_n (by decide) (by decide) (by decide))
      have hw : wfS (.bin .dv (.nam (txs "a")) (.num 0)) := ⟨⟨by decide, by decide⟩, by decide, by decide⟩
      have ev : valS (fun x => numT (gT [(.s (txs "a"), .str (txs "-"))] x)) (.bin .dv (.nam (txs "a")) (.num 0)) = .ref (.tup [.str (txs "number"), .str (txs "a")]) := by
        have hnt : numT (txs "-") = none := by decide
        have eg : gT [(.s (txs "a"), .str (txs "-"))] (txs "a") = txs "-" := rfl
        dsimp only [valS]
        rw [eg, hnt]
      refine p_sum_ok (s := .bin .dv (.nam (txs "a")) (.num 0)) (kvs := [(.s (txs "a"), .str (txs "-"))]) hk.ok hk.pl hk.sp hk.vb (.bin rfl (.nam rfl) (.num rfl)) hw (by decide) (show 1 + 6 ≤ m by omega) fun b => ?_
      rw [ev]
      walk_at "mi go"
      refine p_same 8 (show dMu (.tup [.str (txs "refused"), .tup [.str (txs "number"), .str (txs "a")]]) ≤ 8 by decide) (by omega) rfl ?_
      exact h _

end
end Gx
set_option Elab.async false
namespace Gx
open PySem Mi
def DEPTH : Nat := 60
theorem law_plain : ∀ ns : List Int, ns.length ≤ 63 → (∀ z ∈ ns, Builtin.Int.intBits z ≤ 1048576) → ∃ fr S, callM (bdM DD) DEPTH 26 [.val (.scr ns)] (fun _ => .bad) [] = .rt (.bl true) fr S := fun ns hl hb => by
  obtain ⟨d, b, S, e, hd⟩ := CW.rt (p_law (n := DEPTH) (lam := fun _ => .bad) (S := []) (Q := fun d _ _ => d = .bl true) (E := fun _ _ _ => False) hl (by decide) (fun _ => rfl))
  exact ⟨b, S, by rw [e, hd]⟩
end Gx
set_option Elab.async false
set_option linter.all false
set_option maxRecDepth 100000
set_option maxHeartbeats 4000000
namespace Gx
open PySem PySem.Spec PyProof.Rows L2 Mi

theorem dk : Every DefOk DD.L :=
  .cons ⟨sc_is_integer, (fun _ _ _ _ _ _ us hl => match us, hl with | [_], _ => rfl)⟩ (.cons ⟨sc_is_list, (fun _ _ _ _ _ _ us hl => match us, hl with | [_], _ => rfl)⟩ (.cons ⟨sc_is_name, (fun _ _ _ _ _ _ us hl => match us, hl with | [_], _ => rfl)⟩ (.cons ⟨sc_is_sign, (fun _ _ _ _ _ _ us hl => match us, hl with | [_], _ => rfl)⟩ (.cons ⟨sc_is_text, (fun _ _ _ _ _ _ us hl => match us, hl with | [_], _ => rfl)⟩ (.cons ⟨sc_is_sum, (fun _ _ _ _ _ _ us hl => match us, hl with | [_], _ => rfl)⟩ (.cons ⟨sc_are_values, (fun _ _ _ _ _ _ us hl => match us, hl with | [_], _ => rfl)⟩ (.cons ⟨sc_number_in, (fun _ _ _ _ _ _ us hl => match us, hl with | [_], _ => rfl)⟩ (.cons ⟨sc_quotient, (fun _ _ _ _ _ _ us hl => match us, hl with | [_, _], _ => rfl)⟩ (.cons ⟨sc_joined, (fun _ _ _ _ _ _ us hl => match us, hl with | [_, _, _], _ => rfl)⟩ (.cons ⟨sc_value_of_sum, (fun _ _ _ _ _ _ us hl => match us, hl with | [_, _], _ => rfl)⟩ (.cons ⟨sc_sum_value, (fun _ _ _ _ _ _ us hl => match us, hl with | [_, _], _ => rfl)⟩ (.cons ⟨sc__law_stream, (fun _ _ _ _ _ _ us hl => match us, hl with | [_, _], _ => rfl)⟩ (.cons ⟨sc__law_draw, (fun _ _ _ _ _ _ us hl => match us, hl with | [_, _], _ => rfl)⟩ (.cons ⟨sc__law_pick, (fun _ _ _ _ _ _ us hl => match us, hl with | [_, _], _ => rfl)⟩ (.cons ⟨sc__law_mixed, (fun _ _ _ _ _ _ us hl => match us, hl with | [_, _], _ => rfl)⟩ (.cons ⟨sc__law_loose, (fun _ _ _ _ _ _ us hl => match us, hl with | [_, _], _ => rfl)⟩ (.cons ⟨sc__law_same, (fun _ _ _ _ _ _ us hl => match us, hl with | [_, _], _ => rfl)⟩ (.cons ⟨sc__law_met, (fun _ _ _ _ _ _ us hl => match us, hl with | [_], _ => rfl)⟩ (.cons ⟨sc__law_sum, (fun _ _ _ _ _ _ us hl => match us, hl with | [_, _, _], _ => rfl)⟩ (.cons ⟨sc__law_held, (fun _ _ _ _ _ _ us hl => match us, hl with | [_, _], _ => rfl)⟩ (.cons ⟨sc__law_number, (fun _ _ _ _ _ _ us hl => match us, hl with | [_], _ => rfl)⟩ (.cons ⟨sc__law_worth, (fun _ _ _ _ _ _ us hl => match us, hl with | [_, _], _ => rfl)⟩ (.cons ⟨sc__law_parted, (fun _ _ _ _ _ _ us hl => match us, hl with | [_, _, _], _ => rfl)⟩ (.cons ⟨sc__law_one_right, (fun _ _ _ _ _ _ us hl => match us, hl with | [_, _, _], _ => rfl)⟩ (.cons ⟨sc__law_refused_right, (fun _ _ _ _ _ _ us hl => match us, hl with | [_, _], _ => rfl)⟩ (.cons ⟨sc_law, (fun _ _ _ _ _ _ us hl => match us, hl with | [_], _ => rfl)⟩ (.nil)))))))))))))))))))))))))))
theorem xk_BadSum : ExOk e_BadSum := ⟨fun P w K mg base C fI cc cda fd I nf => init1 (x := "total") (ar := (defArgs e_BadSum.ini).args.getD 0 ⟨"", none, ⟨0,0,0,0⟩⟩) I (NdefX.nscope_by (by decide +kernel)) rfl rfl rfl (fun _ => ⟨_, rfl⟩) (nf _ (by decide)) rfl rfl rfl rfl, fun _ _ _ _ _ _ _ us hl => match us, hl with | [_, _], _ => rfl⟩
theorem xk_BadValues : ExOk e_BadValues := ⟨fun P w K mg base C fI cc cda fd I nf => init1 (x := "held") (ar := (defArgs e_BadValues.ini).args.getD 0 ⟨"", none, ⟨0,0,0,0⟩⟩) I (NdefX.nscope_by (by decide +kernel)) rfl rfl rfl (fun _ => ⟨_, rfl⟩) (nf _ (by decide)) rfl rfl rfl rfl, fun _ _ _ _ _ _ _ us hl => match us, hl with | [_, _], _ => rfl⟩
theorem xk : Every ExOk DD.xs := .cons xk_BadSum (.cons xk_BadValues (.nil))
section
variable {K : PySem.W.Frag} {h : Heap} {mg : Str → Option Value}
theorem env0 (c : SaysM DD K) (kx : K.In h) (G : h.Ns mainGlobals mg) {g : Mi.G} (kin : Kin DD K mg g) : Env0 g where
  sys := by rw [kin.1]; exact c.all.sy
  hb := fun x hx => by rw [kin.2.2.1]; exact free_of c kx G hx
  k_FIRST := gstr_of c kx G kin (by simp [DD])
  k_LATER := gstr_of c kx G kin (by simp [DD])
  k_SIGNS := gstr_of c kx G kin (by simp [DD])
  k_SIGNS_OF_TWO := gtup_of c kx G kin (by simp [DD])
  nx := fun k hk => match k, hk with
    | 0, _ => ⟨_, exc_of kin (i := 0) rfl⟩
    | 1, _ => ⟨_, exc_of kin (i := 1) rfl⟩

  x_0 := exc_of kin (i := 0) (e := e_BadSum) rfl
  x_1 := exc_of kin (i := 1) (e := e_BadValues) rfl
  t_is_integer := td_of c kx G dk kin (i := 0) (d := d_is_integer) rfl
  t_is_list := td_of c kx G dk kin (i := 1) (d := d_is_list) rfl
  t_is_name := td_of c kx G dk kin (i := 2) (d := d_is_name) rfl
  t_is_sign := td_of c kx G dk kin (i := 3) (d := d_is_sign) rfl
  t_is_text := td_of c kx G dk kin (i := 4) (d := d_is_text) rfl
  t_is_sum := td_of c kx G dk kin (i := 5) (d := d_is_sum) rfl
  t_are_values := td_of c kx G dk kin (i := 6) (d := d_are_values) rfl
  t_number_in := td_of c kx G dk kin (i := 7) (d := d_number_in) rfl
  t_quotient := td_of c kx G dk kin (i := 8) (d := d_quotient) rfl
  t_joined := td_of c kx G dk kin (i := 9) (d := d_joined) rfl
  t_value_of_sum := td_of c kx G dk kin (i := 10) (d := d_value_of_sum) rfl
  t_sum_value := td_of c kx G dk kin (i := 11) (d := d_sum_value) rfl
  t__law_stream := td_of c kx G dk kin (i := 12) (d := d__law_stream) rfl
  t__law_draw := td_of c kx G dk kin (i := 13) (d := d__law_draw) rfl
  t__law_pick := td_of c kx G dk kin (i := 14) (d := d__law_pick) rfl
  t__law_mixed := td_of c kx G dk kin (i := 15) (d := d__law_mixed) rfl
  t__law_loose := td_of c kx G dk kin (i := 16) (d := d__law_loose) rfl
  t__law_same := td_of c kx G dk kin (i := 17) (d := d__law_same) rfl
  t__law_met := td_of c kx G dk kin (i := 18) (d := d__law_met) rfl
  t__law_sum := td_of c kx G dk kin (i := 19) (d := d__law_sum) rfl
  t__law_held := td_of c kx G dk kin (i := 20) (d := d__law_held) rfl
  t__law_number := td_of c kx G dk kin (i := 21) (d := d__law_number) rfl
  t__law_worth := td_of c kx G dk kin (i := 22) (d := d__law_worth) rfl
  t__law_parted := td_of c kx G dk kin (i := 23) (d := d__law_parted) rfl
  t__law_one_right := td_of c kx G dk kin (i := 24) (d := d__law_one_right) rfl
  t__law_refused_right := td_of c kx G dk kin (i := 25) (d := d__law_refused_right) rfl
  t_law := td_of c kx G dk kin (i := 26) (d := d_law) rfl
theorem bk (c : SaysM DD K) (kx : K.In h) (G : h.Ns mainGlobals mg) : Every (BodyOk DD K mg) DD.L :=
  .cons (fun X W g kin cc fr la => b_is_integer (env0 c kx G kin) hN_is_integer cc fr) (
  .cons (fun X W g kin cc fr la => b_is_list (env0 c kx G kin) hN_is_list cc fr) (
  .cons (fun X W g kin cc fr la => b_is_name (env0 c kx G kin) hN_is_name cc fr) (
  .cons (fun X W g kin cc fr la => b_is_sign (env0 c kx G kin) hN_is_sign cc fr) (
  .cons (fun X W g kin cc fr la => b_is_text (env0 c kx G kin) hN_is_text cc fr) (
  .cons (fun X W g kin cc fr la => b_is_sum (env0 c kx G kin) hN_is_sum cc fr) (
  .cons (fun X W g kin cc fr la => b_are_values (env0 c kx G kin) hN_are_values cc fr) (
  .cons (fun X W g kin cc fr la => b_number_in (env0 c kx G kin) hN_number_in cc fr) (
  .cons (fun X W g kin cc fr la => b_quotient (env0 c kx G kin) hN_quotient cc fr) (
  .cons (fun X W g kin cc fr la => b_joined (env0 c kx G kin) hN_joined cc fr) (
  .cons (fun X W g kin cc fr la => b_value_of_sum (env0 c kx G kin) hN_value_of_sum cc fr) (
  .cons (fun X W g kin cc fr la => b_sum_value (env0 c kx G kin) hN_sum_value cc fr) (
  .cons (fun X W g kin cc fr la => b__law_stream (env0 c kx G kin) hN__law_stream cc fr) (
  .cons (fun X W g kin cc fr la => b__law_draw (env0 c kx G kin) hN__law_draw cc fr) (
  .cons (fun X W g kin cc fr la => b__law_pick (env0 c kx G kin) hN__law_pick cc fr) (
  .cons (fun X W g kin cc fr la => b__law_mixed (env0 c kx G kin) hN__law_mixed cc fr) (
  .cons (fun X W g kin cc fr la => b__law_loose (env0 c kx G kin) hN__law_loose cc fr) (
  .cons (fun X W g kin cc fr la => b__law_same (env0 c kx G kin) hN__law_same cc fr) (
  .cons (fun X W g kin cc fr la => snd_sbad) (
  .cons (fun X W g kin cc fr la => b__law_sum (env0 c kx G kin) hN__law_sum cc fr) (
  .cons (fun X W g kin cc fr la => b__law_held (env0 c kx G kin) hN__law_held cc fr) (
  .cons (fun X W g kin cc fr la => b__law_number (env0 c kx G kin) hN__law_number cc fr) (
  .cons (fun X W g kin cc fr la => b__law_worth (env0 c kx G kin) hN__law_worth cc fr) (
  .cons (fun X W g kin cc fr la => b__law_parted (env0 c kx G kin) hN__law_parted cc fr) (
  .cons (fun X W g kin cc fr la => b__law_one_right (env0 c kx G kin) hN__law_one_right cc fr) (
  .cons (fun X W g kin cc fr la => b__law_refused_right (env0 c kx G kin) hN__law_refused_right cc fr (la rfl)) (
  .cons (fun X W g kin cc fr la => b_law (env0 c kx G kin) hN_law cc fr) (.nil)))))))))))))))))))))))))))
end
end Gx
open PySem PySem.W PySem.Calls PyProof.Rows
theorem PySem.Challenge.cw_everypipe_k08_whole_sums_holds : PySem.Challenge.rw_everypipe_k08_whole_sums.Holds := by
  w_on; o_law
  refine HandSHeadRun.head_any (r := OpenLaw.row PySem.Challenge.rw_everypipe_k08_whole_sums) (q := Gx.qv) (H := Gx.hk) (ob := Gx.ob) (M := 4000) (loose := Gx.loose) (d := HandSHeadRun.topDef (OpenLaw.row PySem.Challenge.rw_everypipe_k08_whole_sums).prog 38) (kwd := []) Gx.ob_eq
    (by kernel_rfl) (fun s => by kernel_rfl) Gx.run (by kernel_rfl) (by kernel_rfl) (by kernel_rfl) (by rfl) (by first | assumption | decide +kernel) (by decide +kernel) ⟨rfl, rfl, rfl, rfl, rfl, by decide +kernel⟩ ?hw ?hc
  case hw => w_witness2
  case hc =>
    exact Mi.walkM (l := PySem.Challenge.rw_everypipe_k08_whole_sums) (nmax := 63) (n := Gx.DEPTH) (i := 26) (dr := Gx.d_law) (x := "_law_script") rfl (by decide) (by kernel_rfl) ⟨rfl, by decide, by decide⟩ rfl (by kernel_rfl) rfl (by decide +kernel) (by kernel_rfl) (by decide) (by kernel_rfl) Gx.dk Gx.xk (fun K mg h kx G c => Gx.bk c kx G) Gx.law_plain
